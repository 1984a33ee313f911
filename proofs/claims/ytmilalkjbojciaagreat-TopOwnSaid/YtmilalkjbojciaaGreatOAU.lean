/- Part AU: what it needs. No condition. -/
import Derived.Test.YtmilalkjbojciaaGreatOAA
import Derived.Test.YtmilalkjbojciaaGreatOAS
set_option maxRecDepth 100000
set_option maxHeartbeats 8000000
open Go.Proofs.Tryz
namespace Go.Proofs.YtmilalkjbojciaaGreat.Sep
open Go.RowKit Reg
open Mem hiding Rd
instance Tb:cL 147 [.pointer none,.pointer none,.int .i64 0] [(0,1),(1,1),(2,1)]:=⟨⟨by kernel_rfl,by kernel_rfl⟩⟩
structure Sv where
 v:Lg
 ps:List dS
 r:Int
abbrev pN(g a b:Nat)(s:Sv)(os:List Ov):List aL:=[aJ g 147 [pt a,pt b,.int .i64 s.r],eC a s.r s.ps,cO b s.v os]
def aT(g:Nat)(s:Sv)(os:List Ov):aL:=pack λ(x:Nat×Nat)=>pN g x.1 x.2 s os
theorem aT.mk{E:Env}{R:List aL}{g a b:Nat}{s:Sv}{os:List Ov}:aB E (pN g a b s os++R) (aT g s os::R) :=
 aB.pack (l:=λ(x:Nat×Nat)=>pN g x.1 x.2 s os) (a,b) (.cons .aN (.cons .aN (.cons .aN .nil)))
theorem jJ{E:Env}{f:FuncId}{args:Array Value}{g:Nat}{s:Sv}{os:List Ov}{Q:Ending→List aL→Prop}(h:∀a b,aK prog E f args (pN g a b s os) Q):aK prog E f args [aT g s os] Q :=
 aK.unpack (l:=λ(x:Nat×Nat)=>pN g x.1 x.2 s os) Has.aN λx=>by rw[aAc];exact h x.1 x.2
theorem G8(E:Env)(b:Bool):G E 258 [.bool b] [] (cM (.int .i64 (if b then 0 else 14)) []):=by
 refine t_ func258 ntmps258 ?_;cases b;all_goals
  repeat first|refine v_ ?_|intro
  exact e1_
section
variable (E:Env) (g a b:Nat) (s:Sv) (os:List Ov)
theorem DI(hb:gE E g [pt a,pt b,.int .i64 s.r]):G E 72 [pt g] [] (cM (.bool true) []):=by
 refine t_ func72 ntmps72 ?_;repeat first|refine v_ ?_|intro
 exact e1_
theorem It(hb:gE E g [pt a,pt b,.int .i64 s.r]):G E 99 [pt g] [] (cM (pt a) []):=by
 have is:=λE' hb=>DI E' g a b s hb;refine t_ func99 ntmps99 ?_;repeat first|refine v_ ?_|intro
 refine eV is ?_;repeat first|refine v_ ?_|intro
 exact e1_
theorem Wj(r:Int):G E 224 [.int .i64 r] [] λe H'=>∃g,e=.returned (pt g)∧H'=[aT g ⟨Hb,[],dF r 0 3⟩ []]:=by
 refine t_ func224 ntmps224 ?_;repeat first|refine v_ ?_|intro
 refine bW (λ(E':Env)=>YG E' (dF r 0 3)) ?_;rintro e H' ⟨g1,rfl,rfl⟩;repeat first|refine v_ ?_|intro
 refine bW UP ?_;rintro e H' ⟨g2,rfl,rfl⟩;repeat first|refine v_ ?_|intro
 rename_i g3;refine aR (H':=[aT g3 ⟨Hb,[],dF r 0 3⟩ []]) rfl aF ?_ ⟨g3,rfl,rfl⟩;exact aB.trans (aB.aV (l:=pN g3 g1 g2 ⟨Hb,[],dF r 0 3⟩ []) aC) (by have:=aT.mk (E:=E) (R:=[]) (g:=g3) (a:=g1) (b:=g2) (s:=⟨Hb,[],dF r 0 3⟩) (os:=[]);rwa [aAc] at this)
theorem vC:G E 89 [pt g] [aT g s os] (cM (.int .i64 s.r) [aT g s os]):=by
 refine jJ λa b=>?_;have is:=λE' hb=>DI E' g a b s hb;dsimp only[pN];refine t_ func89 ntmps89 ?_;repeat first|refine v_ ?_|intro
 refine eV is ?_;repeat first|refine v_ ?_|intro
 refine aR (H':=[aT g s os]) rfl aF ?_ ⟨rfl,rfl⟩;have:=aT.mk (E:=E) (R:=[]) (g:=g) (a:=a) (b:=b) (s:=s) (os:=os);exact aB.trans (aB.aV (l:=pN g a b s os) aC) (by rwa [aAc] at this)
theorem Pp:G E 14 [pt g] [aT g s os] λe H'=>∃g2,e=.returned (pt g2)∧H'=[cO g2 s.v os,aT g s os]:=by
 refine jJ λa b=>?_;have is:=λE' hb=>DI E' g a b s hb;dsimp only[pN];refine t_ func14 ntmps14 ?_;repeat first|refine v_ ?_|intro
 refine eV is ?_;repeat first|refine v_ ?_|intro
 refine bW (λ(E':Env)=>J0 E' b s.v os) ?_;rintro e H' ⟨g2,rfl,rfl⟩;repeat first|refine v_ ?_|intro
 refine aR (H':=[cO g2 s.v os,aT g s os]) rfl aF ?_ ⟨g2,rfl,rfl⟩;have:=aT.mk (E:=E) (R:=[cO g2 s.v os]) (g:=g) (a:=a) (b:=b) (s:=s) (os:=os);exact aB.trans (aB.aV (l:=pN g a b s os++[cO g2 s.v os]) aC) (aB.trans this aA)
end
end Go.Proofs.YtmilalkjbojciaaGreat.Sep
