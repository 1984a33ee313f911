/- Part BU: what it needs. No condition. -/
import Derived.Test.YtmilalkjbojciaaGreatOAA
import Derived.Test.YtmilalkjbojciaaGreatOBS
import Derived.Test.YtmilalkjbojciaaGreatOBT
set_option maxRecDepth 100000
set_option maxHeartbeats 8000000
open Go.Proofs.Tryz
namespace Go.Proofs.YtmilalkjbojciaaGreat.Sep
open Go.RowKit Reg Oct
open Mem hiding Rd
theorem BR{E:Env}{P:List Ov}{g t:Nat}{v:Wv}{x:AM}{H R:List aL}(ho:v.ok t)(hx:x.gs.length=v.bU.length)(hp:cS (wL P g (kt t) v x) H R):aB E H (aQ P g t v::R):=aB.fp (l:=wL P g (kt t) v) (x:=x) ⟨ho,hx⟩ hp
section
variable (E:Env) (P:List Ov) (g:Nat) (t:Nat) (v:Wv)
theorem zT{f:FuncId}{args:Array Value}{R:List aL}{Q:Ending→List aL→Prop}(h:∀x:AM,v.ok t→x.gs.length=v.bU.length→aK prog E f args ([aJ g 121 (wC x v.now v.aW.length v.cf v.bU.length v.sub),aZ x.gw v.ws,cK x.gg v.ref v.app,own mK x.sA v.aW.length x.sc v.aW,own vE x.nA v.bU.length x.nc x.gs,aO (nP P v.cf (kt t)) (x.gs.zip v.bU)]++R) Q):aK prog E f args (aQ P g t v::R) Q :=
 aK.fp .aN λx hx=>h x hx.1 hx.2
theorem xU:G E 66 [pt g] [aQ P g t v] (cM (.agg v.cf.cs.toArray) [aQ P g t v]):=by
 refine zT E P g t v λx ho hx=>?_;have rK:=ho.rK;have his:=λE' hb=>Ix E' g x v.now v.aW.length v.cf v.bU.length v.sub hb rK.2;rw[decide_eq_true o_] at his;dsimp only[List.cons_append,List.nil_append];refine t_ func66 ntmps66 ?_;repeat first|refine v_ ?_|intro
 refine eV his ?_;repeat first|refine v_ ?_|intro
 exact cI (H':=[aQ P g t v]) (cs:=v.cf.cs) rfl aF rfl rfl rfl aS rfl (aB.trans (BR (x:=x) ho hx aC) aA) ⟨rfl,rfl⟩
theorem CF:G E 26 [pt g] [aQ P g t v] λe H'=>∃g2,e=.returned (pt g2)∧H'=[aZ g2 v.ws,aQ P g t v]:=by
 refine zT E P g t v λx ho hx=>?_;have rK:=ho.rK;have his:=λE' hb=>Ix E' g x v.now v.aW.length v.cf v.bU.length v.sub hb rK.2;rw[decide_eq_true o_] at his;dsimp only[List.cons_append,List.nil_append];refine t_ func26 ntmps26 ?_;repeat first|refine v_ ?_|intro
 refine eV his ?_;repeat first|refine v_ ?_|intro
 refine bW (λ(E':Env)=>S8 E' x.gw v.ws) ?_;rintro e H' ⟨g2,rfl,rfl⟩;repeat first|refine v_ ?_|intro
 exact aR (H':=[aZ g2 v.ws,aQ P g t v]) rfl aF (aB.trans (BR (x:=x) ho hx aC) aA) ⟨g2,rfl,rfl⟩
theorem zZ(ht:t≤1000000):G E 21 [pt g] [aQ P g t v] λe H'=>∃g2,e=.returned (pt g2)∧H'=[cK g2 v.ref v.app,aQ P g t v]:=by
 refine zT E P g t v λx ho hx=>?_;have rK:=ho.rK;have ha:=ho.app;have his:=λE' hb=>Ix E' g x v.now v.aW.length v.cf v.bU.length v.sub hb rK.2;rw[decide_eq_true o_] at his;dsimp only[List.cons_append,List.nil_append];refine t_ func21 ntmps21 ?_;repeat first|refine v_ ?_|intro
 refine eV his ?_;repeat first|refine v_ ?_|intro
 refine bW (λ(E':Env)=>Qz E' x.gg v.ref v.app (by omega)) ?_;rintro e H' ⟨g2,rfl,rfl⟩;repeat first|refine v_ ?_|intro
 exact aR (H':=[cK g2 v.ref v.app,aQ P g t v]) rfl aF (aB.trans (BR (x:=x) ho hx aC) aA) ⟨g2,rfl,rfl⟩
theorem Zj(r:Nat)(n:Nd)(hn:v.bU[r]?=some n):G E 78 [pt g,.int .i64 r] [aQ P g t v] (cM (.bool n.up) [aQ P g t v]):=by
 refine zT E P g t v λx ho hx=>?_;have rK:=ho.rK;obtain⟨gr,hg⟩:∃gr,x.gs[r]?=some gr:=⟨_,aAa (by have:=(aAd.1 hn).1;omega)⟩
 have aty:=λE' hb hG=>qW E' g x v.now v.aW.length v.cf v.bU.length v.sub r gr hb rK.2 hG hg;dsimp only[List.cons_append,List.nil_append];refine aK.pre (vR (k:=kt t) hg hn (.aM (.aM (.aM (.aM (.aM .aN)))))) ?_;have up:=λE'=>TI E' P gr v.cf n (kt t);generalize n.up=b at up⊢;refine t_ func78 ntmps78 ?_;repeat first|refine v_ ?_|intro
 refine DY aty ?_;repeat first|refine v_ ?_|intro
 refine bK up ?_;repeat first|refine v_ ?_|intro
 exact aR (H':=[aQ P g t v]) rfl aF (BZ (t:=t) (v:=v) (v':=v) (x':=x) (Q:=[]) (aAf t) (aAc P).symm hg hn (aCd _) ho hx (mN hn).symm rfl rfl aC) ⟨rfl,rfl⟩
end
section
variable (E:Env) (P:List Ov) (g:Nat) (t:Nat) (v:Wv)
theorem FH(r:Nat)(n:Nd)(hn:v.bU[r]?=some n)(ht:t≤1000000):G E 13 [pt g,.int .i64 r] [aQ P g t v,aI P] λe H'=>∃Q g2,e=.returned (pt g2)∧H'=[dI (P++Q) g2 n.state,aQ (P++Q) g t v,aI (P++Q)]:=by
 refine zT E P g t v λx ho hx=>?_;have rK:=ho.rK;obtain⟨gr,hg⟩:∃gr,x.gs[r]?=some gr:=⟨_,aAa (by have:=(aAd.1 hn).1;omega)⟩
 have aty:=λE' hb hG=>qW E' g x v.now v.aW.length v.cf v.bU.length v.sub r gr hb rK.2 hG hg;dsimp only[List.cons_append,List.nil_append];refine aK.pre (vR (k:=kt t) hg hn (.aM (.aM (.aM (.aM (.aM .aN)))))) ?_;have up:=λE'=>TI E' P gr v.cf n (kt t);unfold Nd.state;cases hu:n.up with
 |true =>
  have st:=λE'=>wW E' P gr v.cf n (kt t);rw[hu] at up st;simp only[if_true] at st⊢;refine t_ func13 ntmps13 ?_;repeat first|refine v_ ?_|intro
  refine DY aty ?_;repeat first|refine v_ ?_|intro
  refine bK up ?_;repeat first|refine v_ ?_|intro
  refine bW st ?_;rintro e H' ⟨g2,rfl,rfl⟩;repeat first|refine v_ ?_|intro
  refine aR (H':=[dI P g2 n.s,aQ P g t v,aI P]) rfl aF (aB.trans (BZ (t:=t) (v:=v) (v':=v) (x':=x) (Q:=[]) (aAf t) (aAc P).symm hg hn (aCd _) ho hx (mN hn).symm rfl rfl aC) aA) ⟨[],g2,rfl,by rw[aAc]⟩
 |false =>
  have st:=λE'=>TH E' P gr v.cf n (kt t) (EA ht);rw[hu] at up;simp only[aCb,if_false];refine t_ func13 ntmps13 ?_;repeat first|refine v_ ?_|intro
  refine DY aty ?_;repeat first|refine v_ ?_|intro
  refine bK up ?_;repeat first|refine v_ ?_|intro
  refine bW st ?_;rintro e H' ⟨Q,g2,rfl,rfl⟩;repeat first|refine v_ ?_|intro
  refine aR (H':=[dI (P++Q) g2 n.stored,aQ (P++Q) g t v,aI (P++Q)]) rfl aF (aB.trans (BZ (t:=t) (v:=v) (v':=v) (x':=x) (Q:=Q) (aAf t) rfl hg hn (aCd _) ho hx (mN hn).symm rfl rfl aC) aA) ⟨Q,g2,rfl,rfl⟩
end
end Go.Proofs.YtmilalkjbojciaaGreat.Sep
