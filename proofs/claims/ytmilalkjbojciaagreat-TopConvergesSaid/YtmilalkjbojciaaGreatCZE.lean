/- Part ZE: what it needs. No condition. -/
import Derived.Test.YtmilalkjbojciaaGreatCZD
set_option linter.all false
set_option maxRecDepth 100000
set_option maxHeartbeats 8000000
open Go.Proofs.Tryz
namespace Go.Proofs.YtmilalkjbojciaaGreat.Sep
open Go.RowKit Reg Oct
open Mem hiding Rd
def IL:bW:=⟨2,40,4,1,2⟩
def EZ:List cK :=
 [⟨1,0,0,0,⟨⟨0,0⟩,0,1,2,0,9,⟨0,0⟩⟩⟩,⟨1,0,0,0,⟨⟨0,0⟩,0,2,1,0,50,⟨0,0⟩⟩⟩,⟨1,0,0,0,⟨⟨0,0⟩,0,9,2,0,3,⟨0,0⟩⟩⟩,
 ⟨4,0,0,9,mG⟩,⟨3,1,0,0,mG⟩,⟨7,0,0,0,mG⟩,⟨7,0,0,0,mG⟩,
 ⟨1,1,0,0,⟨⟨0,0⟩,0,3,1,2,4,⟨0,0⟩⟩⟩,⟨5,1,0,0,mG⟩,⟨7,0,0,0,mG⟩]
def aLc(E:Env):G E 45 [] [] (bL (.agg IL.cs.toArray) []):=by
 refine p_ func45 ntmps45 ?_;intros
 exact eP (H':=[]) (cs:=[a! 2,a! 40,a! 4,a! 1,a! 2]) rfl aJ rfl rfl rfl aV rfl aC ⟨rfl,rfl⟩
def aBw(E:Env):G E 46 [] [] λe a=>∃A c,e=.returned (.slice A 10 c)/\a=[own nK A 10 c EZ]:=by
 refine p_ func46 ntmps46 ?_
 refine L.lI sD (S.JB (T:=nK) (l:=EZ) rfl rfl rfl rfl sD) ?_;rintro _ _ ⟨_,rfl,rfl⟩;refine a_ ?_
 exact dS ⟨_,_,rfl,rfl⟩
noncomputable def aw:Wv:=(Wv.new IL).run EZ
noncomputable def fw:Wv×Nat×Bool:=aw.fair 40
def XA:aw.app.length=1:=q_
def XB:aw.aD.length=2:=q_
def XC:aw.cf.eD=2:=q_
def Zz:decide (0<fw.2.1)=true:=q_
def Z5:fw.2.2=false:=q_
def Z0:fw.1.aD.length=2:=q_
def Z4:fw.1.cf.eD=2:=q_
def Z3:fw.1.quiet=true:=q_
def Zw:(fw.1.state 0).v.l.length=4:=q_
instance (x:Int):Decidable (bQ x):=by unfold bQ;infer_instance
instance (x:aL):Decidable x.ok:=by unfold aL.ok;infer_instance
instance (x:aI):Decidable x.ok:=by unfold aI.ok;infer_instance
def Z2:decide (∀c∈(fw.1.state 0).v.l,c.ok)=true:=q_
def Zy:decide ((wU (fw.1.state 0).v.l).length<20)=true:=q_
def Z1:decide (xA fw.1.app=wT (fw.1.state 0).v.l)=true:=q_
def Zx:fw.1.app.length=3:=q_
def aCb:decide (∀st∈EZ,bQ st.c.n)=true:=q_
end Go.Proofs.YtmilalkjbojciaaGreat.Sep
