/- Part AT: what it needs. No condition. -/
import Derived.Test.YtmilalkjbojciaaGreatOAA
import Derived.Test.YtmilalkjbojciaaGreatOAS
import Derived.Test.YtmilalkjbojciaaGreatOAR
import Derived.Test.YtmilalkjbojciaaGreatOAI
set_option maxRecDepth 100000
set_option maxHeartbeats 8000000
open Go.Proofs.Tryz
namespace Go.Proofs.YtmilalkjbojciaaGreat.Sep
open Go.RowKit Reg
open Mem hiding Rd
section
variable (E:Env) (g:Nat) (r:Int) (ps:List dS)
theorem SK:G E 144 [pt g] [eC g r ps] (cM (.bool (qG ps)) [eC g r ps]):=by
 refine mI λx hf=>?_;refine aK.post (Vj E g x.B x.ls.length x.d r x.ls) ?_;rintro e H' ⟨rfl,rfl⟩;have h2:=eC.mk (E:=E) (R:=[]) (g:=g) hf;rw[aAc] at h2;exact⟨_,h2,by rw[hf.ps],rfl⟩
theorem RG(hps:ps.length≤1000):G E 202 [pt g] [eC g r ps] λe H'=>∃g2,e=.returned (pt g2)∧H'=[eC g2 r ps,eC g r ps]:=by
 refine mI λx hf=>?_;have hl:x.ls.length=ps.length:=by rw[←hf.ps,aAw]
 refine aK.post (VQ E g x.B x.ls.length x.d r x.ls o_ rfl hf.ok) ?_;rintro e H' ⟨g2,B2,d2,l2,rfl,k1,k2,k3,rfl⟩;have hl2:l2.length=x.ls.length:=by have:=congrArg List.length k2;rwa [aAw,aAw] at this
 have h1:=eC.mk (E:=E) (R:=[]) (g:=g) hf;have h2:=eC.mk (E:=E) (R:=vM g x.B x.ls.length x.d r x.ls) (g:=g2) (x:=⟨B2,d2,l2⟩) (r:=r) (ps:=ps) ⟨k1,by rw[k2,hf.ps],by dsimp only;rw[hl2];exact k3⟩;dsimp only at h2;rw[hl2] at h2;rw[aAc] at h1;refine⟨[eC g2 r ps,eC g r ps],aB.trans h2 ?_,g2,rfl,rfl⟩;intro w hw;have h3:St E (vM g x.B x.ls.length x.d r x.ls++[eC g2 r ps]) w:=hw.conv λF hs=>by
  obtain⟨F1,F2,q1,q2,q3,q4⟩:=hs;exact⟨F,aY.2 ⟨F2,F1,λb=>by rw[q1 b];exact Or.comm,λb u1 u2=>q2 b u2 u1,q4,⟨F1,λ_=>False,λb=>by simp,λ_ _ h=>h,q3,λ_ h=>h⟩⟩,λ_ h=>h⟩
 have h4:=eC.mk (E:=E) (R:=[eC g2 r ps]) (g:=g) hf w h3;exact(show aB E [eC g r ps,eC g2 r ps] [eC g2 r ps,eC g r ps] from aA) w h4
theorem Ry(hps:ps.length≤1000)(cf:fU)(now:Int):G E 241 [pt g,.agg cf.cs.toArray,.int .i64 now] [eC g r ps] λe H'=>∃O oc,e=.returned (.slice O (jP (fL r cf now) ps ps.length).length oc)∧H'=[own cP O (jP (fL r cf now) ps ps.length).length oc (jP (fL r cf now) ps ps.length),eC g r ps]:=by
 refine mI λx hf=>?_;have hl:x.ls.length=ps.length:=by rw[←hf.ps,aAw]
 refine aK.post (U0 E g x.B x.ls.length x.d r x.ls cf now o_ rfl hf.ok) ?_;rintro e H' ⟨O,m,oc,rfl,rfl,rfl⟩;rw[hf.ps,hl];refine⟨[own cP O (jP (fL r cf now) ps ps.length).length oc (jP (fL r cf now) ps ps.length),eC g r ps],?_,O,oc,rfl,rfl⟩;intro w hw;have h3:St E (vM g x.B x.ls.length x.d r x.ls++[own cP O (jP (fL r cf now) ps ps.length).length oc (jP (fL r cf now) ps ps.length)]) w:=hw.conv λF hs=>by
  rw[←hl] at hs⊢;obtain⟨F1,F2,q1,q2,q3,q4⟩:=hs;exact⟨F,aY.2 ⟨F2,F1,λb=>by rw[q1 b];exact Or.comm,λb u1 u2=>q2 b u2 u1,q4,⟨F1,λ_=>False,λb=>by simp,λ_ _ h=>h,q3,λ_ h=>h⟩⟩,λ_ h=>h⟩
 have h4:=eC.mk (E:=E) (g:=g) hf w h3;exact(show aB E [eC g r ps,_] [_,eC g r ps] from aA) w h4
end
structure gN where
 to:Int
 A:Option Addr
 n:Nat
 c:Nat
 b:List UInt8
 broken:Bool
abbrev gN.cs(x:gN):List Value:=[.int .i64 x.to,.slice x.A x.n x.c,.bool x.broken]
def iC:Ty gN where
 val x:=.agg x.cs.toArray
 size:=3
 bytes:=40
 tid:=168
 zero:=.agg #[.int .i64 0,.slice none 0 0,.bool false]
 hlen _:=rfl
 lJ a u h:=by simp[Value.cells] at h;rcases h with rfl|rfl|rfl<;>rfl
 gL:=by decide
 hzero:=rfl
 fW:=by kernel_rfl
 nR:=.inl ⟨by kernel_rfl,λ_=>⟨_,rfl⟩⟩
instance Yk:lL iC 40:=⟨rfl⟩
def V1:gN:=⟨0,none,0,0,[],false⟩
theorem On:Rec prog 168 [.int .i64 0,.slice none 0 0,.bool false] [(0,1),(1,1),(2,1)]:=⟨by kernel_rfl,by kernel_rfl⟩
instance WD:cL 168 [.int .i64 0,.slice none 0 0,.bool false] [(0,1),(1,1),(2,1)]:=⟨On⟩
theorem PM:Rec prog 113 [.slice none 0 0] [(0,1)]:=⟨by kernel_rfl,by kernel_rfl⟩
instance WK:cL 113 [.slice none 0 0] [(0,1)]:=⟨PM⟩
structure fD where
 to:Int
 b:List UInt8
 broken:Bool
abbrev DD(x:gN):aL:=own aU x.A x.n x.c x.b
abbrev wr(g:Nat)(A:Option Addr)(n c:Nat):aL:=aJ g 113 [.slice A n c]
abbrev gN.mark(x:gN)(b:List UInt8):gN:=⟨x.to,x.A,x.n,x.c,b,true⟩
theorem IW(E:Env)(A:Option Addr)(n c:Nat)(l:List UInt8)(hr:Rd E aU A n c l)(hl:n≤140737488355300):aK prog E 156 #[.slice A n c] [] λe H'=>∃A' c',e=.returned (.slice A' n c')∧(n≤c'∧c'≤maxLen)∧H'=[own aU A' n c' l]:=by
 refine t_ func156 ntmps156 ?_;cases A with
 |none =>
  obtain⟨rfl,rfl⟩:=hr.none;repeat first|refine aE ?_|intro
  exact aR rfl aF (aB.nil aU) ⟨_,_,rfl,⟨aAf _,aAh _⟩,rfl⟩
 |some a =>
  repeat first|refine aE ?_|intro
  exact aR rfl aF aA (⟨_,_,rfl,⟨by assumption,by assumption⟩,rfl⟩)
theorem vX{P:Program}{E:Env}{fn:Func}{R:Ending→List aL→Prop}{F:Nat→Value}{H H1:List aL}{e:Ex}(hc:aB E H H1)(h:gF P E fn R e F H1)(hp:∀c,e≠.panic c:=by intro c h;cases h):gF P E fn R e F H:=by
 cases e with
 |panic c=>exact absurd rfl (hp c)
 |normal=>obtain⟨v,H',h1,h2,h3⟩:=h;exact⟨v,H',λw hw=>h1 w (hc w hw),hc.trans h2,h3⟩
 |ret=>obtain⟨v,H',h1,h2,h3⟩:=h;exact⟨v,H',λw hw=>h1 w (hc w hw),hc.trans h2,h3⟩
 |exit id=>exact h
section
variable (E:Env) (g:Nat) (A:Option Addr) (n c:Nat) (ls:List gN)
theorem CN(i:Int)(hn:n≤128)(h:i<0∨n≤i):aK prog E 182 #[.pointer (some ⟨g,0,none⟩),.int .i64 i] [wr g A n c] λr H'=>r=.returned (.pointer none)∧H'=[wr g A n c]:=by
 have hmax:=fX;refine t_ func182 ntmps182 ?_;by_cases h0:i<0
 ·repeat first|refine aE ?_|intro
  exact e1_
 ·repeat first|refine aE ?_|intro
  exact e1_
theorem sG(i:Nat)(hn:n≤128)(hi:i<n){e:gN}(he:ls[i]?=some e)(hl:n=ls.length):aK prog E 182 #[.pointer (some ⟨g,0,none⟩),.int .i64 i] [wr g A n c,own iC A n c ls] λr H'=>r=.returned (.pointer (some ((ad A).add (i*iC.size))))∧H'=[wr g A n c,own iC A n c ls]:=by
 have hmax:=fX;refine t_ func182 ntmps182 ?_;repeat first|refine aE ?_|intro
 exact e1_
def AS(E:Env)(ls:List gN)(X:Option Addr)(nx cx:Nat)(b:List UInt8):Prop:=∀E' R,Sub E R E'→(∃R',Has (aO DD ls) R R')→Rd E' aU X nx cx b
theorem AS.rd{E:Env}{ls:List gN}{X:Option Addr}{nx cx:Nat}{b:List UInt8}(h:Rd E aU X nx cx b):AS E ls X nx cx b:=λ_ _ hE _=>h.sub hE
theorem AS.at_{E:Env}{ls:List gN}{i:Nat}{e:gN}(he:ls[i]?=some e):AS E ls e.A e.n e.c e.b:=λ_ _ hE ⟨_,hh⟩=>Sub.aO hE hh he rfl
def wI(g:Nat)(n:Nat)(ls:List gN)(to:Int)(nx:Nat)(b:List UInt8)(br:Bool):Ending→List aL→Prop:=λr H' =>
 ∃A' c' O co,r=.returned (.bool true)∧(n+1≤c'∧c'≤maxLen)∧H'=[wr g A' (n+1) c',own iC A' (n+1) c' (ls++[⟨to,O,nx,co,b,br⟩]),aO DD (ls++[⟨to,O,nx,co,b,br⟩])]
theorem Cf(X:Option Addr)(nx cx:Nat)(to:Int)(br:Bool)(hn:128≤n)(hm:n≤maxLen):aK prog E 94 #[.pointer (some ⟨g,0,none⟩),.agg #[.int .i64 to,.slice X nx cx,.bool br]] [wr g A n c] λr H'=>r=.returned (.bool false)∧H'=[wr g A n c]:=by
 refine t_ func94 ntmps94 ?_;repeat first|refine aE ?_|intro
 exact e1_
theorem QA(X:Option Addr)(nx cx:Nat)(to:Int)(br:Bool)(b:List UInt8)(hn:n<128)(hl:n=ls.length)(hsrc:AS E ls X nx cx b)(hnx:nx≤140737488355300) :
  aK prog E 94 #[.pointer (some ⟨g,0,none⟩),.agg #[.int .i64 to,.slice X nx cx,.bool br]] [wr g A n c,own iC A n c ls,aO DD ls] (wI g n ls to nx b br):=by
 have hmax:=fX;unfold wI;refine t_ func94 ntmps94 ?_;repeat first|refine aE ?_|intro
 rename_i g3;refine cl sD sK aC (λE' hE=>IW E' X nx cx b (hsrc E' _ hE ⟨_,aS⟩) hnx) ?_;rintro r H' ⟨O,co,rfl,⟨hc1,hc2⟩,rfl⟩;repeat first|refine aE ?_|intro
 refine C.bL 10 (l_ [0,1,2,3,4,5] (g_ 6 (g_ 7 (l_ [8,9] (g_ 10 .nil))))) ([wr g A n c,aJ g3 168 [.int .i64 to,.slice O nx co,.bool br]]) q_ q_ aA ?_;repeat first|refine aE ?_|intro
 refine Dr.Aw rfl (by rintro k ⟨⟩<;>decide) bA (S.cB (T:=iC) (e:=⟨to,O,nx,co,b,br⟩) rfl rfl rfl rfl sD) ?_;rintro _ _ ⟨_,rfl,rfl⟩;refine⟨aA,?_⟩;repeat first|refine aE ?_|intro
 rename_i A' c' h1 h2;refine vX (aB.push (f:=DD) (l:=ls) (x:=⟨to,O,nx,co,b,br⟩) aC) ?_;exact jQ ⟨_,_,_,_,rfl,⟨h1,h2⟩,rfl⟩
theorem Mb(to:Int)(X:Option Addr)(nx cx:Nat)(hn:128≤n)(hm:n≤maxLen):aK prog E 30 #[.pointer (some ⟨g,0,none⟩),.int .i64 to,.slice X nx cx] [wr g A n c] λr H'=>r=.returned (.bool false)∧H'=[wr g A n c]:=by
 refine t_ func30 ntmps30 ?_;repeat first|refine aE ?_|intro
 refine bK (λ(E':Env)=>Cf E' g A n c X nx cx to false hn hm) ?_;repeat first|refine aE ?_|intro
 exact e1_
theorem S6(to:Int)(X:Option Addr)(nx cx:Nat)(b:List UInt8)(hn:n<128)(hl:n=ls.length)(hsrc:Rd E aU X nx cx b)(hnx:nx≤140737488355300) :
  aK prog E 30 #[.pointer (some ⟨g,0,none⟩),.int .i64 to,.slice X nx cx] [wr g A n c,own iC A n c ls,aO DD ls] (wI g n ls to nx b false):=by
 refine t_ func30 ntmps30 ?_;repeat first|refine aE ?_|intro
 refine cl sD sK aC (λE' hE=>QA E' g A n c ls X nx cx to false b hn hl (AS.rd (hsrc.sub hE)) hnx) ?_;unfold wI;rintro r H' ⟨A',c',O,co,rfl,h1,rfl⟩;repeat first|refine aE ?_|intro
 exact jQ ⟨_,_,_,_,rfl,h1,rfl⟩
theorem Z4(hn:n≤128):aK prog E 35 #[.pointer (some ⟨g,0,none⟩)] [wr g A n c] λr H'=>r=.returned (.int .i64 n)∧H'=[wr g A n c]:=by
 have hmax:=fX;refine t_ func35 ntmps35 ?_;repeat first|refine aE ?_|intro
 exact e1_
theorem VN(i:Int)(hn:n≤128)(h:i<0∨n≤i):aK prog E 119 #[.pointer (some ⟨g,0,none⟩),.int .i64 i] [wr g A n c] λr H'=>r=.returned (.int .i64 (-1))∧H'=[wr g A n c]:=by
 refine t_ func119 ntmps119 ?_;repeat first|refine aE ?_|intro
 refine bK (λ(E':Env)=>CN E' g A n c i hn h) ?_;repeat first|refine aE ?_|intro
 exact e1_
theorem Ri(i:Nat)(hn:n≤128)(hi:i<n){e:gN}(he:ls[i]?=some e)(hl:n=ls.length):aK prog E 119 #[.pointer (some ⟨g,0,none⟩),.int .i64 i] [wr g A n c,own iC A n c ls] λr H'=>r=.returned (.int .i64 e.to)∧H'=[wr g A n c,own iC A n c ls]:=by
 refine t_ func119 ntmps119 ?_;repeat first|refine aE ?_|intro
 refine bK (λ(E':Env)=>sG E' g A n c ls i hn hi he hl) ?_;repeat first|refine aE ?_|intro
 exact e1_
theorem H7(i:Int)(hn:n≤128)(h:i<0∨n≤i):aK prog E 125 #[.pointer (some ⟨g,0,none⟩),.int .i64 i] [wr g A n c] λr H'=>r=.returned (.bool false)∧H'=[wr g A n c]:=by
 refine t_ func125 ntmps125 ?_;repeat first|refine aE ?_|intro
 refine bK (λ(E':Env)=>CN E' g A n c i hn h) ?_;repeat first|refine aE ?_|intro
 exact e1_
theorem GM(i:Nat)(hn:n≤128)(hi:i<n){e:gN}(he:ls[i]?=some e)(hl:n=ls.length):aK prog E 125 #[.pointer (some ⟨g,0,none⟩),.int .i64 i] [wr g A n c,own iC A n c ls] λr H'=>r=.returned (.bool e.broken)∧H'=[wr g A n c,own iC A n c ls]:=by
 refine t_ func125 ntmps125 ?_;repeat first|refine aE ?_|intro
 refine bK (λ(E':Env)=>sG E' g A n c ls i hn hi he hl) ?_;repeat first|refine aE ?_|intro
 exact e1_
theorem Pw(i:Int)(hn:n≤128)(h:i<0∨n≤i):aK prog E 124 #[.pointer (some ⟨g,0,none⟩),.int .i64 i] [wr g A n c] λr H'=>r=.returned (.bool false)∧H'=[wr g A n c]:=by
 refine t_ func124 ntmps124 ?_;repeat first|refine aE ?_|intro
 refine bK (λ(E':Env)=>CN E' g A n c i hn h) ?_;repeat first|refine aE ?_|intro
 exact e1_
theorem JQ(i:Nat)(hn:n=128)(hi:i<n){e:gN}(he:ls[i]?=some e)(hl:n=ls.length):aK prog E 124 #[.pointer (some ⟨g,0,none⟩),.int .i64 i] [wr g A n c,own iC A n c ls] λr H'=>r=.returned (.bool false)∧H'=[wr g A n c,own iC A n c ls]:=by
 have hmax:=fX;have hn1:n≤128:=by omega
 have hn2:128≤n:=by omega
 have hn3:n≤maxLen:=by omega
 refine t_ func124 ntmps124 ?_;repeat first|refine aE ?_|intro
 refine bK (λ(E':Env)=>sG E' g A n c ls i hn1 hi he hl) ?_;repeat first|refine aE ?_|intro
 refine bK (λ(E':Env)=>Cf E' g A n c e.A e.n e.c e.to e.broken hn2 hn3) ?_;repeat first|refine aE ?_|intro
 exact e1_
theorem Xd(i:Nat)(hn:n<128)(hi:i<n){e:gN}(he:ls[i]?=some e)(hl:n=ls.length)(hnx:e.n≤140737488355300) :
  aK prog E 124 #[.pointer (some ⟨g,0,none⟩),.int .i64 i] [wr g A n c,own iC A n c ls,aO DD ls] (wI g n ls e.to e.n e.b e.broken):=by
 have hn1:n≤128:=by omega
 refine t_ func124 ntmps124 ?_;repeat first|refine aE ?_|intro
 refine bK (λ(E':Env)=>sG E' g A n c ls i hn1 hi he hl) ?_;repeat first|refine aE ?_|intro
 refine bW (λ(E':Env)=>QA E' g A n c ls e.A e.n e.c e.to e.broken e.b hn hl (AS.at_ he) hnx) ?_;unfold wI;rintro r H' ⟨A',c',O,co,rfl,h1,rfl⟩;repeat first|refine aE ?_|intro
 exact jQ ⟨_,_,_,_,rfl,h1,rfl⟩
end
section
variable (E:Env) (g:Nat) (A:Option Addr) (n c:Nat) (ls:List gN)
theorem RU(i:Nat)(hn:n≤128)(hl:n=ls.length)(hi:i<n)(hc:n≤c)(hcm:c≤maxLen) :
  aK prog E 183 #[.slice A n c,.int .i64 i,.int .i64 ((i+1:Nat):Int)] [own iC A n c ls] λr H'=>r=.returned (.slice A (n - 1) c)∧H'=[own iC A (n - 1) c (ls.eraseIdx i)]:=by
 have hmax:=fX;have hm1:n≤maxLen:=by omega
 have hm2:n - 1≤maxLen:=by omega
 have herase:ls.take i++ls.drop (i+1)=ls.eraseIdx i:=(aDp ..).symm;refine t_ func183 ntmps183 ?_;repeat first|refine aE ?_|intro
 refine L.val sD (Y.slice3 (q:=n) rfl rfl rfl rfl rfl rfl rfl rfl rfl rfl o_ o_ hc) ?_;repeat first|refine aE ?_|intro
 refine rB (l_ [0,1,2,3,4,5] (g_ 6 (n_ 7 .nil))) ([]) ?_;repeat first|refine aE ?_|intro
 refine Dr.take rfl sD bA (λ_ _=>V.slice rfl rfl rfl (S.upto (j:=i) rfl rfl rfl o_)) ?_;repeat first|refine aE ?_|intro
 refine Dr.take rfl sD bA (λ_ _=>V.slice rfl rfl rfl (S.from_ (j:=i+1) rfl rfl rfl o_ hc)) ?_;repeat first|refine aE ?_|intro
 refine Dr.Aw rfl (by rintro k ⟨⟩<;>decide) bA (S.Oi (T:=iC) (m:=n) (n':=n - 1) (l:=ls) (l2:=ls.drop (i+1)) (l':=ls.eraseIdx i) (by_:=40) rfl rfl rfl o_ o_ dH (kV.from_ (kV.own aS) o_) herase rfl rfl o_ o_ o_ o_) ?_;rintro _ _ ⟨rfl,rfl⟩;refine⟨aA,?_⟩;repeat first|refine aE ?_|intro
 refine L.val sD (λ_ _=>V.slice rfl rfl rfl (S.both (j:=n - 1) (m:=n) rfl rfl rfl rfl o_ hc)) ?_;refine L.pX (S.VU (T:=iC) (z:=V1) (j:=n - 1) (k:=n - (n - 1)) rfl rfl rfl rfl (aAf _) o_ o_ dH) ?_;rintro _ _ ⟨rfl,rfl⟩;repeat first|refine aE ?_|intro
 exact e1_
theorem Pc(i:Int)(hn:n≤128)(h:i<0∨n≤i):aK prog E 120 #[.pointer (some ⟨g,0,none⟩),.int .i64 i] [wr g A n c] λr H'=>r=.returned (.tuple #[.slice none 0 0,.bool false])∧H'=[wr g A n c]:=by
 refine t_ func120 ntmps120 ?_;repeat first|refine aE ?_|intro
 refine bK (λ(E':Env)=>CN E' g A n c i hn h) ?_;repeat first|refine aE ?_|intro
 exact e2_
theorem XI(i:Nat)(hn:n≤128)(hl:n=ls.length)(hc:n≤c)(hcm:c≤maxLen){e:gN}(he:ls[i]?=some e) :
  aK prog E 120 #[.pointer (some ⟨g,0,none⟩),.int .i64 i] [wr g A n c,own iC A n c ls,aO DD ls] λr H'=>r=.returned (.tuple #[.slice e.A e.n e.c,.bool true])∧H'=[own aU e.A e.n e.c e.b,wr g A (n - 1) c,own iC A (n - 1) c (ls.eraseIdx i),aO DD (ls.eraseIdx i)]:=by
 have hi:i<n:=by have:=(aAd.1 he).1;omega
 have hmax:=fX;have hs:IntKind.i64.wrap ((i:Int)+1)=((i+1:Nat):Int):=by rw[aAq _ o_];omega
 refine t_ func120 ntmps120 ?_;repeat first|refine aE ?_|intro
 refine bK (λ(E':Env)=>sG E' g A n c ls i hn hi he hl) ?_;repeat first|refine aE ?_|intro
 refine bK (λ(E':Env)=>RU E' A n c ls i hn hl hi hc hcm) ?_;repeat first|refine aE ?_|intro
 refine vX (aB.out (f:=DD) (l:=ls) aS he) ?_;exact e2_
theorem PO(i k:Int)(hn:n≤128)(h:i<0∨n≤i):aK prog E 126 #[.pointer (some ⟨g,0,none⟩),.int .i64 i,.int .i64 k] [wr g A n c] λr H'=>r=.returned (.bool false)∧H'=[wr g A n c]:=by
 refine t_ func126 ntmps126 ?_;repeat first|refine aE ?_|intro
 refine bK (λ(E':Env)=>CN E' g A n c i hn h) ?_;repeat first|refine aE ?_|intro
 exact e1_
theorem LF(i:Nat)(k:Int)(hn:n≤128)(hl:n=ls.length){e:gN}(he:ls[i]?=some e)(hen:e.n≤maxLen)(h:e.broken=true∨k<0∨(e.n:Int)≤k / 8)(hk : -9223372036854775808≤k∧k≤9223372036854775807):aK prog E 126 #[.pointer (some ⟨g,0,none⟩),.int .i64 i,.int .i64 k] [wr g A n c,own iC A n c ls] λr H'=>r=.returned (.bool false)∧H'=[wr g A n c,own iC A n c ls]:=by
 have hi:i<n:=by have:=(aAd.1 he).1;omega
 have hmax:=fX;refine t_ func126 ntmps126 ?_;repeat first|refine aE ?_|intro
 refine bK (λ(E':Env)=>sG E' g A n c ls i hn hi he hl) ?_;rcases aBh e.broken with hb|hb
 ·repeat first|refine aE ?_|intro
  exact e1_
 by_cases hk0:k<0
 ·repeat first|refine aE ?_|intro
  exact e1_
 have hq:(e.n:Int)≤k / 8:=by
  rcases h with h|h|h
  ·rw[hb] at h;cases h
  ·exact absurd h hk0
  ·exact h
 have hw:IntKind.i64.wrap (k.tdiv 8)=k / 8:=by rw[aFg o_];exact aAq _ o_
 repeat first|refine aE ?_|intro
 exact e1_
def Dg(b:UInt8)(k:Nat):UInt8:=UInt8.ofNat (b.toNat ^^^ 2 ^ k)
def tJ(b:List UInt8)(k:Nat):List UInt8:=b.set (k / 8) (Dg (b.getD (k / 8) 0) (k % 8))
theorem ZL(b:UInt8){k:Nat}(hk:k<8){z:Int}(hz:z=2 ^ k % 256):Go.bits .xor .u8 (b.toNat:Int) z=((Dg b k).toNat:Int):=by
 subst hz;have hx:=aEr b;have hp2:2 ^ k<256:=Nat.pow_lt_pow_right (n:=8) sD hk;have e:((2:Int) ^ k % 256)=((2 ^ k:Nat):Int):=by
  have h1:((2 ^ k:Nat):Int)=(2:Int) ^ k:=by simp
  have h2:((2 ^ k:Nat):Int)<256:=by omega
  rw[←h1];exact Int.emod_eq_of_lt (aFo _) h2
 have hlt:b.toNat ^^^ 2 ^ k<256:=Nat.xor_lt_two_pow (n:=8) hx hp2;rw[e,u8_xor_nat _ _ hx hp2,Dg,aEy,aEc hlt]
theorem Wn(i k:Nat)(hn:n≤128)(hl:n=ls.length){e:gN}(he:ls[i]?=some e)(hen:e.n=e.b.length)(hem:e.n≤140737488355300)(hb:e.broken=false)(hk:k / 8<e.n) :
  aK prog E 126 #[.pointer (some ⟨g,0,none⟩),.int .i64 i,.int .i64 k] [wr g A n c,own iC A n c ls,aO DD ls] λr H'=>r=.returned (.bool true)∧H'=[aO DD (ls.set i (e.mark (tJ e.b k))),wr g A n c,own iC A n c (ls.set i (e.mark (tJ e.b k)))]:=by
 have hil:=(aAd.1 he).1;have hi:i<n:=by omega
 have hmax:=fX;have hem2:e.n≤maxLen:=by omega
 have hq:IntKind.i64.wrap ((k:Int).tdiv 8)=((k / 8:Nat):Int):=by rw[IntWalk.i64_quo _ _ o_];omega
 have hr:(k:Int).tmod 8=((k % 8:Nat):Int):=by rw[Int.tmod_eq_emod_of_nonneg o_];omega
 obtain⟨x,hx⟩:∃x,e.b[k / 8]?=some x:=⟨_,aAa o_⟩
 have hfl:tJ e.b k=e.b.set (k / 8) (Dg x (k % 8)):=by unfold tJ;rw[aBb,hx];rfl
 have hz:IntKind.u8.wrap (1*2 ^ min ((k % 8:Nat):Int).toNat IntKind.u8.bits)=2 ^ (k % 8) % 256:=by
  rw[aAu,show min (k % 8) IntKind.u8.bits=k % 8 from aBr (show k % 8≤8 by omega),Int.one_mul];exact IntKind.wrap_u8 _
 have hxor:=ZL x (k:=k % 8) o_ rfl;rw[hfl];have hset:Ba iC e 2 (.bool true) (e.mark (e.b.set (k / 8) (Dg x (k % 8)))):=Ba.Yu rfl sD rfl;refine t_ func126 ntmps126 ?_;repeat first|refine aE ?_|intro
 refine bK (λ(E':Env)=>sG E' g A n c ls i hn hi he hl) ?_;repeat ((fail_if_success (refine C.seq (x:=Code.region 4 _ _) ?_));first|refine Cx ?_|refine He ?_|intro _|refine Dr.two ?_ ?_)
 refine C.conv (aB.out (f:=DD) (l:=ls) aS he) ?_;repeat first|refine aE ?_|intro
 refine C.bL 13 (l_ [0,1,2,3,4,5,6,7,8,9,10,11,12] (g_ 13 .nil)) _ q_ q_ aB.refl ?_;repeat first|refine aE ?_|intro
 refine vX (aB.BH (f:=DD) (l:=ls.eraseIdx i) (i:=i) (x:=e.mark (e.b.set (k / 8) (Dg x (k % 8)))) aC (uO hil)) ?_;exact e1_
end
def gN.p(x:gN):fD:=⟨x.to,x.b,x.broken⟩
def Qa(ls:List gN):Prop:=∀e∈ls,e.n=e.b.length∧e.n≤140737488355300
theorem Qa.add{ls:List gN}(h:Qa ls){e:gN}(h1:e.n=e.b.length)(h2:e.n≤140737488355300):Qa (ls++[e]):=by
 intro x hx;rcases aBg.1 hx with hx|hx
 ·exact h x hx
 ·rw[aAp] at hx;subst hx;exact⟨h1,h2⟩
theorem E1{X:Type}{l:List X}{i:Nat}{e:X}{Z:Type}{f:X→Z}(he:l[i]?=some e):(l.take (i+1)).map f=(l.take i).map f++[f e]:=by
 obtain⟨h,rfl⟩:=aAd.1 he;rw[aAn h,aBk];rfl
section
variable (E:Env) (g:Nat) (A:Option Addr) (n c:Nat) (ls:List gN)
structure s8(E:Env)(g:Nat)(A:Option Addr)(n c:Nat)(ls:List gN):Prop where
 k:qP E ⟨g,0,none⟩ (.slice A n c)
 r:Rd E iC A n c ls
 q:∀e∈ls,Rd E aU e.A e.n e.c e.b
def EK(n:Nat)(ls:List gN):Ending→List aL→Prop:=λr H' =>
 ∃g' A' c' ls',r=.returned (.pointer (some ⟨g',0,none⟩))∧ls'.map gN.p=ls.map gN.p∧Qa ls'∧(n≤c'∧c'≤maxLen)∧H'=[wr g' A' n c',own iC A' n c' ls',aO DD ls']
theorem VM(hW:s8 E g A n c ls)(hn:n≤128)(hok:Qa ls):aK prog E 88 #[.pointer (some ⟨g,0,none⟩)] [] (EK n ls):=by
 obtain⟨hk,hr,hq⟩:=hW;have hl:=hr.len;have hmax:=fX;unfold EK;refine t_ func88 ntmps88 ?_;repeat ((fail_if_success (refine C.seq (x:=Code.region 4 _ _) ?_));first|refine Cx ?_|refine He ?_|intro _|refine Dr.two ?_ ?_)
 rename_i g3;refine C.conv ((aB.oR iC none).trans (aB.kP DD)) ?_;repeat first|refine aE ?_|intro
 refine C.loop (X:=Nat×Option Addr×Nat×List gN) (λx=>[(3,.pointer (some ⟨g3,0,none⟩)),(13,.slice A n c),(14,.int .i64 n),(15,.int .i64 x.1)])
  (λx=>[wr g3 x.2.1 x.1 x.2.2.1,own iC x.2.1 x.1 x.2.2.1 x.2.2.2,aO DD x.2.2.2]) (λx=>x.1≤n∧x.2.2.2.map gN.p=(ls.take x.1).map gN.p∧x.1=x.2.2.2.length∧Qa x.2.2.2∧x.1≤x.2.2.1∧x.2.2.1≤maxLen) (λx=>n - x.1) (0,none,0,[]) aD aA ⟨aAh _,rfl,rfl,λ_ h=>(aAk h).elim,aAf _,aAh _⟩ ?_
 rintro⟨i,B,d,l2⟩ F ⟨hi,hp,h2,h3,h4,h5⟩;dsimp only at hi hp h2 h3 h4 h5⊢;by_cases hlt:i<n
 ·obtain⟨e,he⟩:∃e,ls[i]?=some e:=⟨_,aAa o_⟩
  have hmem:=aAi he;obtain⟨e1,e2⟩:=hok e hmem;have hi128:i<128:=by omega
  repeat first|refine aE ?_|intro
  refine cl sD sK aC (λE' hE=>QA E' g3 B i d l2 e.A e.n e.c e.to e.broken e.b hi128 h2 (AS.rd ((hq e hmem).sub hE)) e2) ?_;unfold wI;rintro r H' ⟨B',d',O,co,rfl,⟨j1,j2⟩,rfl⟩;repeat first|refine aE ?_|intro
  exact⟨(i+1,B',d',l2++[⟨e.to,O,e.n,co,e.b,e.broken⟩]),aD,aA,⟨by dsimp only;omega,by dsimp only;rw[E1 he,aBk,hp];rfl,by dsimp only;rw[aAe,←h2];rfl,h3.add e1 e2,j1,j2⟩,by dsimp only;omega⟩
 ·have hin:i=n:=by omega
  subst hin;repeat first|refine aE ?_|intro
  exact aR rfl aF aA (⟨_,_,_,_,rfl,by rw[hp,aAj o_],h3,⟨h4,h5⟩,rfl⟩)
end
end Go.Proofs.YtmilalkjbojciaaGreat.Sep
