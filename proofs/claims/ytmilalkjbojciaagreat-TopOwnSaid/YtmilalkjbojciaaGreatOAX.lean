/- Part AX: what it needs. No condition. -/
import Derived.Test.YtmilalkjbojciaaGreatOAA
import Derived.Test.YtmilalkjbojciaaGreatOAI
import Derived.Test.YtmilalkjbojciaaGreatOAD
import Derived.Test.YtmilalkjbojciaaGreatOAB
import Derived.Test.YtmilalkjbojciaaGreatOAW
import Derived.Test.YtmilalkjbojciaaGreatOAO
set_option maxRecDepth 100000
set_option maxHeartbeats 8000000
open Go.Proofs.Tryz
namespace Go.Proofs.YtmilalkjbojciaaGreat.Sep
open Go.RowKit Reg
open Mem hiding Rd
abbrev AR:={ l:List UInt8 // l.length=32 }
def sH:Ty AR where
 val s:=.agg (s.1.map λb=>Value.int .u8 (b.toNat:Int)).toArray
 size:=32
 bytes:=32
 tid:=295
 zero:=.agg (List.replicate 32 (Value.int .u8 0)).toArray
 hlen s:=by simp[Value.cells,s.2]
 lJ s u h:=by
  simp only[Value.cells,aFn] at h;obtain⟨b,_,rfl⟩:=h;rfl
 gL:=by decide
 hzero:=by simp[Value.cells]
 fW:=by kernel_rfl
 nR:=.inl ⟨by kernel_rfl,λ_=>⟨_,rfl⟩⟩
instance Wb:kQ 295 AR sH:=⟨rfl⟩
instance XF:lL sH 32:=⟨rfl⟩
def Ek:AR:=⟨List.replicate 32 0,by simp⟩
instance Wl:uU sH Ek:=⟨rfl⟩
theorem Kt:ZO sH aU 32 (·.1):=λs=>⟨by
 show(s.1.map λb=>Value.int .u8 (b.toNat:Int))=s.1.flatMap λb=>[Value.int .u8 (b.toNat:Int)]
 induction s.1 with
 |nil=>rfl
 |cons b l ih=>simp[ih],s.2⟩
theorem QB:Rec prog 250 [.bool false,.bool false,.int .i64 0,.int .i64 0,.slice none 0 0] [(0,1),(1,1),(2,1),(3,1),(4,1)]:=⟨by kernel_rfl,by kernel_rfl⟩
instance VO:cL 250 [.bool false,.bool false,.int .i64 0,.int .i64 0,.slice none 0 0] [(0,1),(1,1),(2,1),(3,1),(4,1)]:=⟨QB⟩
abbrev Cy(g:Nat)(made dead:Bool)(aG wr:Int)(A:Option Addr)(n c:Nat):aL:=aJ g 250 [.bool made,.bool dead,.int .i64 aG,.int .i64 wr,.slice A n c]
def flat(l:List AR):List UInt8:=l.flatMap (·.1)
theorem eI(l:List AR):(flat l).length=32*l.length:=by
 induction l with
 |nil=>rfl
 |cons s l ih=>simp only[flat,aDy,aAe,s.2,aAs] at ih⊢;omega
theorem mS(a b:List AR):flat (a++b)=flat a++flat b:=aDz
theorem Be{l:List AR}{i:Nat}(h:i<l.length):flat (l.take (i+1))=flat (l.take i)++l[i].1:=by
 rw[aAn h,mS];simp[flat]
theorem Pm(E:Env)(n:Int)(k:Nat)(hk:(k:Int)=if n<0 then 0 else if 256<n then 256 else n) :
  aK prog E 106 #[.int .i64 n] [] λe H'=>∃g g2,e=.returned (.pointer (some ⟨g,0,none⟩))∧H'=[Cy g true false (-1) 0 (some ⟨g2,0,none⟩) k k,own sH (some ⟨g2,0,none⟩) k k (List.replicate k Ek)]:=by
 have hk2:k≤256:=by split at hk<;>(try split at hk)<;>omega
 refine t_ func106 ntmps106 ?_;repeat first|refine aE ?_|intro
 refine bW (λ(E':Env)=>Dz E' n 0 256) ?_;rintro e H' ⟨rfl,rfl⟩;rw[show dF n 0 256=(k:Int) from hk.symm];repeat first|refine aE ?_|intro
 exact jQ ⟨_,_,rfl,rfl⟩
section
variable (E:Env) (g:Nat) (made dead:Bool) (aG wr:Int) (A:Option Addr) (n c:Nat) (l:List AR)
abbrev zK:List aL:=[Cy g made dead aG wr A n c,own sH A n c l]
theorem Jt(i:Int)(b:Bool)(hb:b=(!dead&&decide (0≤i)&&decide (i<n)))(hn:n≤256):aK prog E 286 #[.pointer (some ⟨g,0,none⟩),.int .i64 i] [Cy g made dead aG wr A n c] λe H'=>e=.returned (.bool b)∧H'=[Cy g made dead aG wr A n c]:=by
 subst hb;have hm:n≤maxLen:=by unfold maxLen;omega
 refine t_ func286 ntmps286 ?_;cases dead
 ·by_cases h1:0≤i
  ·repeat first|refine aE ?_|intro
   exact aR rfl aF aA (⟨by simp[h1],rfl⟩)
  ·repeat first|refine aE ?_|intro
   exact aR rfl aF aA (⟨by simp[h1],rfl⟩)
 ·repeat first|refine aE ?_|intro
  exact e1_
def wk(aG:Int):Nat:=if 0≤aG∧aG<32 then aG.toNat else 32
def jD(aG:Int):Bool:=decide (0≤aG∧aG<32)
def gX(aG:Int):Int:=if 0≤aG∧aG<32 then -1 else if aG = -1 then -1 else aG - 32
theorem pL(aG:Int):wk aG≤32:=by unfold wk;split<;>omega
def front(k:Nat)(b:List UInt8)(hb:b.length=32)(hk:k≤32)(s:AR):AR:=⟨b.take k++s.1.drop k,by simp[s.2,hb];omega⟩
theorem DT(B:Option Addr)(d:Nat)(b:List UInt8)(i:Nat)(hb:b.length=32)(hr:Rd E aU B 32 d b)(hn:n≤256)(hi:i<l.length)(ha : -1≤aG)(ha2:aG≤9223372036854775807)(hw:0≤wr)(hw2:wr≤100000000000000) :
  aK prog E 233 #[.pointer (some ⟨g,0,none⟩),.int .i64 i,.slice B 32 d] (zK g made false aG wr A n c l) λe H'=>e=.returned (.bool (!jD aG)) ∧
   H'=zK g made (jD aG) (gX aG) (wr+wk aG) A n c (l.set i (front (wk aG) b hb (pL _) l[i])):=by
 refine aK.fact (p:=n=l.length) (λw hw=>(kV.own (H:=zK g made false aG wr A n c l) aS w hw).1) λhnl=>?_;have hm:=hr.len;have hcap:=hr.cap;have hli:l[i]?=some l[i]:=aAa hi;have hfr:(front (wk aG) b hb (pL _) l[i]).1=b.take (wk aG)++l[i].1.drop (wk aG):=rfl;have hcut:=hr.upto (k:=wk aG) (m:=d) (pL _) (aBw (pL _) hcap.1) (aAf _);have harr:=Kt;have hwle:=pL aG;generalize front (wk aG) b hb (pL _) l[i]=s at *;refine t_ func233 ntmps233 ?_;repeat first|refine aE ?_|intro
 refine bK (λ(E':Env)=>Jt E' g made false aG wr A n c i true (by simp;omega) hn) ?_;repeat ((fail_if_success (refine C.seq (x:=Code.region 4 _ _) ?_));first|refine Cx ?_|refine He ?_|intro _|refine Dr.two ?_ ?_)
 refine C.BI (X:=Unit) (λ_=>[(0,.pointer (some ⟨g,0,none⟩)),(1,.int .i64 i),(2,.slice B 32 d),(7,.int .i64 (wk aG:Nat))]) (λ_=>zK g made (jD aG) (gX aG) wr A n c l) (λ_=>True) ?_ ?_
 ·unfold wk jD gX;by_cases h1:aG = -1
  ·rw[if_neg o_,if_neg o_,if_pos h1,decide_eq_false o_];subst h1;repeat first|refine aE ?_|intro
   exact⟨(),aD,aB.refl,trivial⟩
  ·by_cases h2:aG<32
   ·rw[if_pos ⟨by omega,h2⟩,if_pos ⟨by omega,h2⟩,decide_eq_true ⟨by omega,h2⟩];obtain⟨k,rfl⟩:=aCf (show 0≤aG by omega);repeat first|refine aE ?_|intro
    exact⟨(),aD,aB.refl,trivial⟩
   ·rw[if_neg o_,if_neg o_,if_neg h1,decide_eq_false o_];repeat first|refine aE ?_|intro
    exact⟨(),aD,aB.refl,trivial⟩
 rintro - G -;generalize wk aG=k at *;repeat first|refine aE ?_|intro
 refine C.bL 10 (l_ [0,1,2,3,4,5,6,7,8,9] (g_ 10 .nil)) _ q_ q_ aB.refl ?_;repeat first|refine aE ?_|intro
 exact e1_
end
theorem MZ(E:Env)(A:Option Addr)(n c:Nat)(l:List _)(hr:Rd E aU A n c l)(hl:n≤140737488355300):aK prog E 156 #[.slice A n c] [] λe H'=>∃A' c',e=.returned (.slice A' n c')∧n≤c'∧c'≤maxLen∧H'=[own aU A' n c' l]:=by
 refine t_ func156 ntmps156 ?_;cases A with
 |none =>
  obtain⟨rfl,rfl⟩:=hr.none;repeat first|refine aE ?_|intro
  exact aR rfl aF (aB.nil aU) ⟨_,_,rfl,aAf _,aAh _,rfl⟩
 |some a =>
  repeat first|refine aE ?_|intro
  exact aR rfl aF aA (⟨_,_,rfl,by assumption,by assumption,rfl⟩)
theorem Lz(E:Env)(A:Option Addr)(n c:Nat)(l:List _)(hr:Rd E sH A n c l)(hl:n≤1000000):aK prog E 203 #[.slice A n c] [] λe H'=>∃A' c',e=.returned (.slice A' n c')∧n≤c'∧c'≤maxLen∧H'=[own sH A' n c' l]:=by
 refine t_ func203 ntmps203 ?_;cases A with
 |none =>
  obtain⟨rfl,rfl⟩:=hr.none;repeat first|refine aE ?_|intro
  exact aR rfl aF (aB.nil sH) ⟨_,_,rfl,aAf _,aAh _,rfl⟩
 |some a =>
  repeat first|refine aE ?_|intro
  exact aR rfl aF aA (⟨_,_,rfl,by assumption,by assumption,rfl⟩)
section
variable (E:Env) (g:Nat) (made dead:Bool) (aG wr:Int) (A:Option Addr) (n c:Nat) (l:List AR)
theorem B0(i:Nat)(hn:n≤256)(hi:i<l.length)(hnl:n=l.length) :
  aK prog E 234 #[.pointer (some ⟨g,0,none⟩),.int .i64 i] (zK g made false aG wr A n c l) λe H'=>∃B d,e=.returned (.tuple #[.slice B 32 d,.bool true])∧32≤d∧d≤maxLen∧H'=own aU B 32 d l[i].1::zK g made false aG wr A n c l:=by
 have hli:l[i]?=some l[i]:=aAa hi;have harr:=Kt;have hm:32≤maxLen:=by unfold maxLen;omega
 generalize l[i]=s at *;refine t_ func234 ntmps234 ?_;repeat first|refine aE ?_|intro
 refine bK (λ(E':Env)=>Jt E' g made false aG wr A n c i true (by simp;omega) hn) ?_;repeat first|refine aE ?_|intro
 refine cl sD sK aC (λE' hE=>MZ E' _ 32 32 s.1 (Rd.inner harr hm (Sub.own hE aS) hli rfl) o_) ?_;rintro e H' ⟨B,d,rfl,h1,h2,rfl⟩;repeat first|refine aE ?_|intro
 exact Cz ⟨_,_,rfl,h1,h2,rfl⟩
theorem SX(k:Int):aK prog E 193 #[.pointer (some ⟨g,0,none⟩),.int .i64 k] [Cy g true dead aG wr A n c] λe H'=>e=.returned (.tuple #[])∧H'=[Cy g true dead (if dead then aG else max k (-1)) wr A n c]:=by
 refine t_ func193 ntmps193 ?_;cases dead
 ·rw[if_neg (by simp)];repeat first|refine aE ?_|intro
  exact e3_
 ·rw[if_pos rfl];repeat first|refine aE ?_|intro
  exact e3_
theorem Ic:aK prog E 141 #[.pointer (some ⟨g,0,none⟩)] [Cy g true dead aG wr A n c] λe H'=>e=.returned (.tuple #[])∧H'=[Cy g true false (-1) wr A n c]:=by
 refine t_ func141 ntmps141 ?_;repeat first|refine aE ?_|intro
 exact e3_
theorem SG(hn:n≤256):aK prog E 221 #[.pointer (some ⟨g,0,none⟩)] [Cy g made dead aG wr A n c] λe H'=>e=.returned (.int .i64 n)∧H'=[Cy g made dead aG wr A n c]:=by
 have hm:n≤maxLen:=by unfold maxLen;omega
 refine t_ func221 ntmps221 ?_;repeat first|refine aE ?_|intro
 exact e1_
theorem CL:aK prog E 175 #[.pointer (some ⟨g,0,none⟩)] [Cy g made dead aG wr A n c] λe H'=>e=.returned (.bool dead)∧H'=[Cy g made dead aG wr A n c]:=by
 refine t_ func175 ntmps175 ?_;repeat first|refine aE ?_|intro
 exact e1_
theorem Bi(hn:n≤256):aK prog E 140 #[.pointer (some ⟨g,0,none⟩)] (zK g true dead aG wr A n c l) λe H'=>∃g' A' c',e=.returned (.pointer (some ⟨g',0,none⟩))∧H'=zK g' true dead aG wr A' n c' l++zK g true dead aG wr A n c l:=by
 refine t_ func140 ntmps140 ?_;repeat first|refine aE ?_|intro
 refine dX (λ(E':Env) h1=>Lz E' A n c l h1 (by omega)) ?_;rintro e H' ⟨A',c',rfl,h1,h2,rfl⟩;repeat first|refine aE ?_|intro
 exact jQ ⟨_,_,_,rfl,rfl⟩
end
section
variable {E:Env} {H:List aL} {α:Type} {T:Ty α} {A:Option Addr} {n c:Nat} {l:List α} {N:Nat} {F:Nat→Value} {o:Oper} {H':List aL}
def lay(l:List α)(k:Nat)(l2:List α):List α:=l.take k++l2++l.drop (k+l2.length)
theorem JY{k:Nat}{l2:List α}(h:k+l2.length≤l.length):(lay l k l2).length=l.length:=by
 unfold lay;simp only[aAe,aAg,aBd];omega
theorem KZ{F1:Nat→Prop}{u:World}{g k:Nat}{l2:List α}{cur:Array Value}(h0:(own T (some ⟨g,0,none⟩) n c l).holds F1 u)(hh:u.heap[g]?=some (.cells cur T.tid (0,0)))(hk:k+l2.length≤n)(hn0:0<n) :
  k*T.size+(T.bT l2).length≤cur.size∧F1 g∧(own T (some ⟨g,0,none⟩) n c (lay l k l2)).holds F1 (u.setRow g (cur.toList.take (k*T.size+0)++T.bT l2++cur.toList.drop (k*T.size+0+(T.bT l2).length)).toArray):=by
 have hn:=h0.1;obtain⟨m1,_,_,cur',m2,m3,m4,m5,m6⟩:=rP (g:=g) (q:=0) h0 rfl hn0;rw[hh] at m2;injection m2 with m2;injection m2 with m2 _ _
 subst m2;have hFF:∀b,F1 b↔b=g:=by
  obtain⟨_,⟨h6,_⟩|⟨g',_,h6,h7,_⟩⟩:=h0
  ·omega
  ·injection h6 with h6;injection h6 with h6;subst h6;exact h7
 have hel:(T.bT l2).length=l2.length*T.size:=T.bM l2;have hlen:(k+l2.length)*T.size≤n*T.size:=aBa _ hk;have hl2:(k+l2.length)*T.size=k*T.size+l2.length*T.size:=aDb _ _ _;have hnc:n*T.size≤c*T.size:=aBa _ m3;refine⟨by omega,m1,by rw[JY o_];exact hn,.inr ⟨g,_,rfl,hFF,setRow_heap u g _ _ _ _ hh,m3,m4,?_,?_⟩⟩
 ·simp;omega
 ·unfold lay;rw[T.iU,T.iU,←T.nX,←T.gD,←m6,aDb,←hel,aFb];have hc:cur.toList.length=c*T.size:=by rw[aDs,m5]
  simp only;rw[aEt,aEt,aEn,aEn,aFe o_,aBr o_,aAj (l:=T.bT l2) (by rw[aAg];omega),List.drop_take];congr 2;rw[aAe,aAg,aBr o_]
theorem GY{g k:Nat}(hkc:k<c):(if c=k then(some (⟨g,0,none⟩:Addr)) else(some (⟨g,0,none⟩:Addr)).map (·.add (k*T.size)))=some ⟨g,k*T.size,none⟩:=by
 rw[if_neg o_];show some ((⟨g,0,none⟩:Addr).add _)=_;rw[fB,aCa]
theorem S.QQ{x d:Operand}{t t2:TypeId}{k m nx cx:Nat}{X:Option Addr}{l2:List α}(ho:o.op=.call { callee:=.builtin .copy,args:=#[d,x],argTypes:=#[t,t2] })
  (hd:ev F d=.slice (if c=k then A else A.map (·.add (k*T.size))) m (c - k)) (hx:ev F x=.slice X nx cx) (hrd:kV E H T X nx cx l2) (hr:dT (own T A n c l) [own T A n c (lay l k l2)] H H')
  (ht:prog.underlying t=some (.slice T.tid)) (hkm:k+m≤n) (h0:0<m) (hnx:nx≤m) (hm:m≤maxLen):gK prog N E F H o λr H1=>r=.int .i64 (nx:Int)∧H1=H':=by
 intro a u ha hu Kw Q' hK;obtain⟨R,hhas,F0,h1⟩:=hu.xO hr;obtain⟨g,hA0⟩:∃g,A=some ⟨g,0,none⟩:=by
  obtain⟨_,⟨rfl,h2,_⟩|⟨g,cur,rfl,_⟩⟩:=h1
  ·omega
  ·exact⟨g,rfl⟩
 subst hA0;obtain⟨hF,_,_,cur,hh,h2,h3,h4,h5⟩:=rP (g:=g) (q:=0) h1 rfl o_;rw[GY o_] at hd;obtain⟨k0,_,_,_⟩:=hrd u hu;have hfc:=uA hrd hu;have hp:∀F1,(own T (some ⟨g,0,none⟩) n c l).holds F1 u→_:=λF1 h=>KZ (k:=k) (l2:=l2) h hh o_ o_;have hst:=run_storeCells_at prog g (k*T.size) T.tid (T.bT l2) 0 cur u hh (by have:=(hp F0 h1).1;omega) (T.kS l2);obtain⟨tu,hi,_,hsz,_⟩:=T.jA;have hmin:Nat.min nx m=nx:=aBr hnx;unfold Oper.wp;rw[ha.eval];have hw:IntKind.i64.wrap (nx:Int)=nx:=aAq _ (by unfold maxLen at hm;omega);have hrun:(execOp (ev F) o).run prog u=.ok (.value (.int .i64 (nx:Int))) (u.setRow g (cur.toList.take (k*T.size+0)++T.bT l2++cur.toList.drop (k*T.size+0+(T.bT l2).length)).toArray):=by
  simp[execOp,ho,resolve,invoke,builtin,hd,hx,Builtin.copy_,run_underlying ht,Builtin.lenOf,hmin,sizeOf,typeInfo,hi,hsz,hfc,goInt] at hst⊢;simp[hst]
 rw[hrun];exact hK _ _ _ ⟨rfl,rfl⟩ (St.setRow hu hr g _ λF1 k1=>⟨(hp F1 k1).2.1,(hp F1 k1).2.2⟩)
theorem S.M1{x:Operand}{t:TypeId}{z:α}{k m:Nat}(ho:o.op=.call { callee:=.builtin .clear,args:=#[x],argTypes:=#[t] })(hx:ev F x=.slice (if c=k then A else A.map (·.add (k*T.size))) m (c - k))
  (ht:prog.underlying t=some (.slice T.tid)) (hz:T.val z=T.zero) (hkm:k+m≤n) (h0:0<m) (hr:dT (own T A n c l) [own T A n c (lay l k (List.replicate m z))] H H'):gK prog N E F H o λr H1=>r=.tuple #[]∧H1=H':=by
 intro a u ha hu Kw Q' hK;obtain⟨R,hhas,F0,h1⟩:=hu.xO hr;obtain⟨g,hA0⟩:∃g,A=some ⟨g,0,none⟩:=by
  obtain⟨_,⟨rfl,h2,_⟩|⟨g,cur,rfl,_⟩⟩:=h1
  ·omega
  ·exact⟨g,rfl⟩
 subst hA0;obtain⟨hF,_,_,cur,hh,h2,h3,h4,h5⟩:=rP (g:=g) (q:=0) h1 rfl o_;rw[GY o_] at hx;obtain⟨ti,hi,hzz,hsz,hbt⟩:=T.jA;have hzc:Builtin.zeroCells T.zero.cells m=madeCells T.zero.cells (m*T.size):=by
  have:=T.hzero;simp[Builtin.zeroCells,madeCells,this]
 have hzl:(Builtin.zeroCells T.zero.cells m).toList=T.bT (List.replicate m z):=by rw[hzc,nN T z hz]
 have hp:∀F1,(own T (some ⟨g,0,none⟩) n c l).holds F1 u→_:=λF1 h=>KZ (k:=k) (l2:=List.replicate m z) h hh (by rw[aAz];omega) o_;have hst:=run_storeCells_at prog g (k*T.size) T.tid (T.bT (List.replicate m z)) 0 cur u hh (by have:=(hp F0 h1).1;omega) (T.kS _);unfold Oper.wp;rw[ha.eval];have hx2:(execOp (ev F) o).run prog u=.ok (.value (.tuple #[])) (u.setRow g (cur.toList.take (k*T.size+0)++T.bT (List.replicate m z)++cur.toList.drop (k*T.size+0+(T.bT (List.replicate m z)).length)).toArray):=by
  obtain⟨m,rfl⟩:∃k',m=k'+1:=⟨m - 1,by omega⟩
  unfold execOp;simp only[ho,resolve,invoke,builtin,aAy,aCc,aAr,aEb,aCi,aDo,hx];simp[Builtin.clear_,run_underlying ht,zeroValue,typeInfo,hi,hzz,hzl] at hst⊢;simp[hst]
 rw[hx2];exact hK _ _ _ ⟨rfl,rfl⟩ (St.setRow hu hr g _ λF1 k1=>⟨(hp F1 k1).2.1,(hp F1 k1).2.2⟩)
theorem V.UJ{x:Operand}{t e:TypeId}{B:Option Addr}{d:Nat}{u:World}(ho:o.op=.call { callee:=.builtin .clear,args:=#[x],argTypes:=#[t] })(hx:ev F x=.slice B 0 d)(ht:prog.underlying t=some (.slice e)):(execOp (ev F) o).run prog u=.ok (.value (.tuple #[])) u:=by
 unfold execOp;simp only[ho,resolve,invoke,builtin,aAy,aCc,aAr,aEb,aCi,aDo,hx];cases B<;>simp[Builtin.clear_,run_underlying ht]
end
end Go.Proofs.YtmilalkjbojciaaGreat.Sep
namespace Go.Proofs.YtmilalkjbojciaaGreat.Sep
open Go.RowKit Reg Oct Frm
open Mem hiding Rd
theorem tR(E:Env)(n:Int):aK prog E 243 #[.int .i64 n] [] λe H'=>e=.returned (.int .i64 (if 1≤n∧n≤4096 then n+7 else 0))∧H'=[]:=by
 refine t_ func243 ntmps243 ?_;by_cases h1:n<1
 ·rw[if_neg o_];repeat first|refine aE ?_|intro
  exact e1_
 ·by_cases h2:4096<n
  ·rw[if_neg o_];repeat first|refine aE ?_|intro
   exact e1_
  ·rw[if_pos o_];have e1:IntKind.i64.wrap (2+n)=n+2:=by rw[aAq _ o_];omega
   have e2:IntKind.i64.wrap (n+2+4)=n+6:=by rw[aAq _ o_];omega
   have e3:IntKind.i64.wrap (n+6+1)=n+7:=by rw[aAq _ o_];omega
   repeat first|refine aE ?_|intro
   exact e1_
section
variable (E:Env) (A:Option Addr) (n c:Nat) (l:List UInt8)
theorem QN:aK prog E 239 #[.slice A 0 c] [] λe H'=>e=.returned (.tuple #[.slice none 0 0,.int .i64 4])∧H'=[]:=by
 have hm:0≤maxLen:=aAh _;refine t_ func239 ntmps239 ?_;repeat first|refine aE ?_|intro
 exact e2_
theorem D5(hr:Rd E aU A n c l)(hn:4096<n):aK prog E 239 #[.slice A n c] [] λe H'=>e=.returned (.tuple #[.slice none 0 0,.int .i64 5])∧H'=[]:=by
 have hcap:=hr.cap;refine t_ func239 ntmps239 ?_;repeat first|refine aE ?_|intro
 refine bW (λ(E':Env)=>tR E' n) ?_;rw[if_neg o_];rintro e H' ⟨rfl,rfl⟩;repeat first|refine aE ?_|intro
 exact e2_
theorem SM(l:List UInt8)(k:Nat):Oct.put l k 2=l++be k 2:=if_neg o_
theorem Y9(l:List UInt8)(k:Nat):Oct.put l k 4=l++be k 4:=if_neg o_
theorem uR(hr:Rd E aU A n c l)(h1:1≤n)(hn:n≤4096):aK prog E 239 #[.slice A n c] [] λe H'=>∃A' c',e=.returned (.tuple #[.slice A' (n+7) c',.int .i64 0])∧H'=[own aU A' (n+7) c' (fr l)]:=by
 have hcap:=hr.cap;have hln:=hr.len;have hsl:=Crc.EW l;have hp2:Oct.put [] n 2=be n 2:=by rw[SM];rfl
 have hb2:=aP n 2;have hp4:Oct.put (be n 2++l) (Crc.sum l) 4=be n 2++l++be (Crc.sum l) 4:=Y9 _ _;have hb4:(be n 2++l++be (Crc.sum l) 4).length=n+6:=by simp[aP];omega
 have hfr:be n 2++l++be (Crc.sum l) 4++[UInt8.ofNat (Int.toNat 90)]=fr l:=by unfold fr;rw[←hln];rfl
 refine t_ func239 ntmps239 ?_;repeat first|refine aE ?_|intro
 refine bW (λ(E':Env)=>tR E' n) ?_;rw[if_pos o_];rintro e H' ⟨rfl,rfl⟩;repeat first|refine aE ?_|intro
 refine dX (λ(E':Env) h1=>FL E' none 0 0 [] n 2 h1 (by omega) (by omega)) ?_;rw[hp2];unfold uQ;rw[hb2];rintro e H' ⟨A1,c1,rfl,h2,h3,rfl⟩;repeat first|refine aE ?_|intro
 rename_i A2 c2 _ _;refine L.fQ sD (S.cB (T:=vQ) (e:=(⟨A,n,c,l⟩:Oc)) rfl rfl rfl rfl sD) ?_;rintro _ _ ⟨_,rfl,rfl⟩;repeat first|refine aE ?_|intro
 refine DY (λ(E':Env) h1=>Bc E' 0 A n c l h1 _) ?_;repeat first|refine aE ?_|intro
 refine dX (λ(E':Env) h1=>FL E' A2 (2+n) c2 (be n 2++l) (Crc.sum l) 4 h1 (by omega) (by omega)) ?_;rw[hp4];unfold uQ;rw[hb4];rintro e H' ⟨A3,c3,rfl,h4,h5,rfl⟩;repeat first|refine aE ?_|intro
 rw[hfr];exact Cz ⟨_,_,rfl,rfl⟩
theorem uW{l:List UInt8}{k:Nat}(h:k≤l.length):nx false l k=(some (l.take k),false,l.drop k):=by
 unfold nx;rw[if_neg (by simp),if_neg o_,aAu]
theorem Nf{l:List UInt8}{k:Nat}(h:l.length<k):nx false l k=(none,true,l):=by
 unfold nx;rw[if_neg (by simp),if_pos o_]
theorem Ha(hr:Rd E aU A n c l)(hl:n≤140737488355200)(x:List UInt8)(k:Nat)(hx:kG l=some (x,k)) :
  aK prog E 184 #[.slice A n c] [] λe H'=>∃B d,e=.returned (.tuple #[.slice B x.length d,.int .i64 k,.bool true])∧H'=[own aU B x.length d x]:=by
 have hn:=hr.len;have hcap:=hr.cap;unfold kG at hx;split at hx
 case isFalse=>cases hx
 rename_i hok;injection hx with hx;injection hx with hx hk
 subst hk;obtain⟨h2,h1,h3,h4,h90,hsum⟩:=hok;have hxl:x.length=size l:=by rw[←hx];simp;omega
 have hnx1:nx false l (wid 2)=(some (l.take 2),false,l.drop 2):=uW h2;have hnx2:nx false (l.drop 2) (size l:Nat)=(some ((l.drop 2).take (size l)),false,(l.drop 2).drop (size l)):=uW (by simp;omega);have hnx3:nx false ((l.drop 2).drop (size l)) (wid 4)=(some (((l.drop 2).drop (size l)).take 4),false,((l.drop 2).drop (size l)).drop 4):=uW (by simp;omega);have hget:Oct.get (l.take 2)=size l:=rfl;have hg4:Oct.get (((l.drop 2).drop (size l)).take 4)=Crc.sum x:=by rw[aBt,aEs 2 (size l),hsum,hx]
 have hsl:=Crc.EW x;generalize size l=s at *;have hs1:IntKind.i64.wrap ((s:Int)+7 - 1)=((s+6:Nat):Int):=by rw[aAq _ o_];omega
 refine t_ func184 ntmps184 ?_;repeat first|refine aE ?_|intro
 refine dX (λ(E':Env) h1=>lD E' A n c l h1 (by omega)) ?_;rintro e H' ⟨g,A0,c0,rfl,h5,h6,rfl⟩;refine gk bG ?_;unfold Bs;repeat first|refine aE ?_|intro
 refine dX (λ(E':Env)=>iG E' g false A0 n c0 l 2) ?_;rw[hnx1];rintro e H' ⟨A1,n1,c1,rfl,hal1,rfl⟩;refine gk bG ?_;simp only[tk,hget];repeat first|refine aE ?_|intro
 refine bW (λ(E':Env)=>tR E' s) ?_;rw[if_pos o_];rintro e H' ⟨rfl,rfl⟩;repeat first|refine aE ?_|intro
 refine cl sD sK aC (λE' hE=>kR E' g false A1 n1 c1 (l.drop 2) s (hal1 _ dB) (by simp;omega)) ?_;rw[hnx2];rintro e H' ⟨A3,n3,c3,B,d,rfl,hal3,hmd,hd3,rfl⟩;dsimp only[Option.getD,Option.isSome] at hmd⊢;rw[hx] at hmd⊢;repeat first|refine aE ?_|intro
 refine cl sD sK aC (λE' hE=>iG E' g false A3 n3 c3 ((l.drop 2).drop s) 4 (hal3 _ (hal1 _ dB))) ?_;rw[hnx3];rintro e H' ⟨A4,n4,c4,rfl,hal4,rfl⟩;refine gk bG ?_;simp only[tk,hg4];repeat first|refine aE ?_|intro
 refine L.fQ sD (S.cB (T:=vQ) (e:=(⟨B,x.length,d,x⟩:Oc)) rfl rfl rfl rfl sD) ?_;rintro _ _ ⟨_,rfl,rfl⟩;repeat first|refine aE ?_|intro
 refine DY (λ(E':Env) h1=>Bc E' 0 B x.length d x h1 _) ?_;repeat first|refine aE ?_|intro
 exact Ma rfl aF aF aF aA (⟨_,_,rfl,rfl⟩)
theorem Ka(hr:Rd E aU A n c l)(hl:n≤140737488355200)(hx:kG l=none) :
  aK prog E 184 #[.slice A n c] [] λe H'=>e=.returned (.tuple #[.slice none 0 0,.int .i64 0,.bool false])∧H'=[]:=by
 have hn:=hr.len;have hcap:=hr.cap;have hno:¬ok l:=by
  intro h;unfold kG at hx;rw[if_pos h] at hx;cases hx
 refine t_ func184 ntmps184 ?_;repeat first|refine aE ?_|intro
 refine dX (λ(E':Env) h1=>lD E' A n c l h1 (by omega)) ?_;rintro e H' ⟨g,A0,c0,rfl,h5,h6,rfl⟩;refine gk bG ?_;unfold Bs;repeat first|refine aE ?_|intro
 refine dX (λ(E':Env)=>iG E' g false A0 n c0 l 2) ?_;by_cases h2:2≤l.length
 ·have hnx1:nx false l (wid 2)=(some (l.take 2),false,l.drop 2):=uW h2;have hget:Oct.get (l.take 2)=size l:=rfl;have hs65:size l<65536:=by
   have:=BY (l.take 2);rw[aAg,aBr h2] at this;exact this
  rw[hnx1];rintro e H' ⟨A1,n1,c1,rfl,hal1,rfl⟩;refine gk bG ?_;simp only[tk,hget];repeat first|refine aE ?_|intro
  refine bW (λ(E':Env)=>tR E' (size l)) ?_;by_cases h1:1≤size l∧size l≤4096
  ·rw[if_pos o_];rintro e H' ⟨rfl,rfl⟩;refine gk bG ?_;by_cases h4:size l+7≤l.length
   ·have hx6:l[size l+6]?=some l[size l+6]:=aAa o_;have hs1:IntKind.i64.wrap ((size l:Int)+7 - 1)=((size l+6:Nat):Int):=by rw[aAq _ o_];omega
    by_cases h90:l[size l+6]=90
    ·rw[h90] at hx6;have hsum:Oct.get ((l.drop (size l+2)).take 4)≠Crc.sum ((l.drop 2).take (size l)):=λh=>hno ⟨h2,h1.1,h1.2,h4,hx6,h⟩;have hxl:((l.drop 2).take (size l)).length=size l:=by simp;omega
     have hnx2:nx false (l.drop 2) (size l:Nat)=(some ((l.drop 2).take (size l)),false,(l.drop 2).drop (size l)):=uW (by simp;omega);have hnx3:nx false ((l.drop 2).drop (size l)) (wid 4)=(some (((l.drop 2).drop (size l)).take 4),false,((l.drop 2).drop (size l)).drop 4):=uW (by simp;omega);have hg4:Oct.get (((l.drop 2).drop (size l)).take 4)≠Crc.sum ((l.drop 2).take (size l)):=by rw[aBt,aEs 2 (size l)];exact hsum
     have hsl:=Crc.EW ((l.drop 2).take (size l));have hgl:=BY (((l.drop 2).drop (size l)).take 4);rw[show(((l.drop 2).drop (size l)).take 4).length=4 by simp;omega] at hgl;clear hget hno hx hsum;generalize (l.drop 2).take (size l)=x at *;generalize hy:Oct.get (((l.drop 2).drop (size l)).take 4)=y at *;generalize size l=s at *;repeat first|refine aE ?_|intro
     refine cl sD sK aC (λE' hE=>kR E' g false A1 n1 c1 (l.drop 2) s (hal1 _ dB) (by simp;omega)) ?_;rw[hnx2];rintro e H' ⟨A3,n3,c3,B,d,rfl,hal3,hmd,hd3,rfl⟩;dsimp only[Option.getD,Option.isSome] at hmd⊢;repeat first|refine aE ?_|intro
     refine cl sD sK aC (λE' hE=>iG E' g false A3 n3 c3 ((l.drop 2).drop s) 4 (hal3 _ (hal1 _ dB))) ?_;rw[hnx3];rintro e H' ⟨A4,n4,c4,rfl,hal4,rfl⟩;refine gk bG ?_;simp only[tk,hy];repeat first|refine aE ?_|intro
     refine L.fQ sD (S.cB (T:=vQ) (e:=(⟨B,x.length,d,x⟩:Oc)) rfl rfl rfl rfl sD) ?_;rintro _ _ ⟨_,rfl,rfl⟩;repeat first|refine aE ?_|intro
     refine DY (λ(E':Env) h1=>Bc E' 0 B x.length d x h1 _) ?_;repeat first|refine aE ?_|intro
     exact Ma rfl aF aF aF aA (⟨rfl,rfl⟩)
    ·have h90':l[size l+6].toNat≠90:=λh=>h90 (aEg.1 h);repeat first|refine aE ?_|intro
     exact Ma rfl aF aF aF aA (⟨rfl,rfl⟩)
   ·repeat first|refine aE ?_|intro
    exact Ma rfl aF aF aF aA (⟨rfl,rfl⟩)
  ·rw[if_neg o_];rintro e H' ⟨rfl,rfl⟩;repeat first|refine aE ?_|intro
   exact Ma rfl aF aF aF aA (⟨rfl,rfl⟩)
 ·have hnx1:nx false l (wid 2)=(none,true,l):=Nf (k:=2) o_;rw[hnx1];rintro e H' ⟨A1,n1,c1,rfl,hal1,rfl⟩;refine gk bG ?_;simp only[tk];repeat first|refine aE ?_|intro
  refine bW (λ(E':Env)=>tR E' 0) ?_;rw[if_neg o_];rintro e H' ⟨rfl,rfl⟩;repeat first|refine aE ?_|intro
  exact Ma rfl aF aF aF aA (⟨rfl,rfl⟩)
end
section
variable (E:Env) (A:Option Addr) (n c:Nat) (l:List UInt8)
theorem LP{H:List aL}:aB E H (own vQ none 0 0 []::aO uL []::H):=λw hw=>aB.nil vQ w (aB.kP uL w hw)
theorem Zy(hr:Rd E aU A n c l)(hl:n≤2000000) :
  aK prog E 223 #[.slice A n c] [] λe H'=>∃O co xs,e=.returned (.tuple #[.slice O xs.length co,.int .i64 (upto l)])∧H'=[own vQ O xs.length co xs,aO uL xs]∧xs.map (·.b)=cZ l:=by
 have hn:=hr.len;have hcap:=hr.cap;have hfc:=yG l;refine t_ func223 ntmps223 ?_;repeat first|refine aE ?_|intro
 refine C.loop (X:=Nat×Option Addr×Nat×List Oc) (λx=>[(0,.slice A n c),(4,.slice x.2.1 x.2.2.2.length x.2.2.1),(5,.int .i64 x.1)]) (λx=>[own vQ x.2.1 x.2.2.2.length x.2.2.1 x.2.2.2,aO uL x.2.2.2])
  (λx=>x.1≤n∧x.2.2.2.map (·.b)++cZ (l.drop x.1)=cZ l∧x.1+upto (l.drop x.1)=upto l) (λx=>n - x.1) (0,none,0,[]) aD (LP E) ⟨aAh _,rfl,by simp⟩ ?_
 rintro⟨i,O,co,xs⟩ G ⟨hi,hfs,hup⟩;dsimp only at hi hfs hup⊢;have bS:=hr.from_ (k:=i) hi;have hxm:xs.length≤(cZ l).length:=by rw[←hfs];simp
 repeat first|refine aE ?_|intro
 cases hq:kG (l.drop i) with
 |none =>
  have hz:=gR hq;rw[hz.1,aAc] at hfs;rw[hz.2,aFb] at hup;refine cl sD sK aC (λE' hE=>Ka E' _ (n - i) (c - i) (l.drop i) dB o_ hq) ?_;rintro e H' ⟨rfl,rfl⟩;repeat first|refine aE ?_|intro
  exact vT rfl aF aF aA (⟨_,_,_,by rw[←hup],rfl,hfs⟩)
 |some r =>
  obtain⟨x,k⟩:=r;have hb:=lW hq;have hz:=kM hq;rw[aBd] at hb;refine cl sD sK aC (λE' hE=>Ha E' _ (n - i) (c - i) (l.drop i) dB o_ x k hq) ?_;rintro e H' ⟨B,d,rfl,rfl⟩;repeat first|refine aE ?_|intro
  refine L.fQ sD (S.cB (T:=vQ) (e:=(⟨B,x.length,d,x⟩:Oc)) rfl rfl rfl rfl sD) ?_;rintro _ _ ⟨_,rfl,rfl⟩;repeat first|refine aE ?_|intro
  rename_i A' c' _ _;have hlen:(xs++[(⟨B,x.length,d,x⟩:Oc)]).length=xs.length+1:=by simp
  rw[hz.1] at hfs;rw[hz.2] at hup;refine⟨(i+k,A',c',xs++[(⟨B,x.length,d,x⟩:Oc)]),?_,?_,⟨by dsimp only;omega,?_,?_⟩,by dsimp only;omega⟩
  ·dsimp only;rw[hlen];exact aD
  ·dsimp only;rw[hlen];exact(aB.push (f:=uL) (x:=⟨B,x.length,d,x⟩) aC).trans aA
  ·dsimp only;rw[←hfs,aBk,aAb,←aBt];rfl
  ·dsimp only;rw[←hup,←aBt];omega
end
end Go.Proofs.YtmilalkjbojciaaGreat.Sep
namespace Go.Proofs.YtmilalkjbojciaaGreat.Sep
def sp(D:List UInt8)(o:Nat)(x:List UInt8):List UInt8:=D.take o++x++D.drop (o+x.length)
theorem dZ{D:List UInt8}{o:Nat}{x:List UInt8}(h:o+x.length≤D.length):(sp D o x).length=D.length:=by
 unfold sp;simp only[aAe,aAg,aBd];omega
theorem oM{D:List UInt8}{o:Nat}{x:List UInt8}(h:o+x.length≤D.length)(j:Nat):(sp D o x)[j]?=if j<o then D[j]? else if j<o+x.length then x[j - o]? else D[j]?:=by
 unfold sp;have h1:(D.take o).length=o:=by rw[aAg];omega
 by_cases h2:j<o
 ·rw[if_pos h2,aAb,aBp o_,aEd,if_pos h2]
 ·rw[if_neg h2];by_cases h3:j<o+x.length
  ·rw[if_pos h3,aBp (by rw[aAe];omega),aBc o_,h1]
  ·rw[if_neg h3,aBc (by rw[aAe];omega),aAe,h1,aCv];congr 1;omega
theorem Cm(D:List UInt8)(o:Nat):sp D o []=D:=by unfold sp;simp
theorem iA{l:List UInt8}{k j:Nat}:(l.take k)[j]?=if j<k then l[j]? else none:=aEd
theorem Cu{l:List AR}{i:Nat}(h:i<l.length):flat l=flat (l.take i)++l[i].1++flat (l.drop (i+1)):=by
 have:l=l.take i++l[i]::l.drop (i+1):=by rw[←aAm h,aAx]
 conv=>lhs;rw[this]
 rw[mS,aAb];rfl
theorem F4{l:List AR}{i k:Nat}{b:List UInt8}(hb:b.length=32)(hk:k≤32)(h:i<l.length):flat (l.set i (front k b hb hk l[i]))=sp (flat l) (32*i) (b.take k):=by
 have hset:l.set i (front k b hb hk l[i])=l.take i++front k b hb hk l[i]::l.drop (i+1):=by
  rw[aDg,if_pos h]
 have hA:(flat (l.take i)).length=32*i:=by rw[eI,aAg];omega
 have hS:=l[i].2;have hbk:(b.take k).length=k:=by rw[aAg];omega
 rw[hset,mS,Cu h];show flat (l.take i)++((b.take k++l[i].1.drop k)++flat (l.drop (i+1)))=_;unfold sp;rw[hbk];simp only[aAb];have hd:(flat (l.take i)++(l[i].1++flat (l.drop (i+1)))).drop (32*i+k)=l[i].1.drop k++flat (l.drop (i+1)):=by
  rw[←hA,List.drop_append,aFa o_];simp
 rw[aBj hA,hd]
theorem GB{l:List AR}{i:Nat}(h:i<l.length):l[i].1=((flat l).drop (32*i)).take 32:=by
 have hA:(flat (l.take i)).length=32*i:=by rw[eI,aAg];omega
 rw[Cu h,aAb,aBu hA,aBj l[i].2]
theorem LA(l:List AR)(k:Nat):flat (l.take k)=(flat l).take (32*k):=by
 by_cases h:k≤l.length
 ·have h1:flat l=flat (l.take k)++flat (l.drop k):=by rw[←mS,aAx]
  rw[h1,aBj (by rw[eI,aAg];omega)]
 ·rw[aAj o_,aAj (by rw[eI];omega)]
theorem MJ(l:List AR)(k:Nat):flat (l.drop k)=(flat l).drop (32*k):=by
 by_cases h:k≤l.length
 ·have h1:flat l=flat (l.take k)++flat (l.drop k):=by rw[←mS,aAx]
  rw[h1,aBu (by rw[eI,aAg];omega)]
 ·rw[List.drop_eq_nil_of_le o_,List.drop_eq_nil_of_le (by rw[eI];omega)];rfl
def bS(N h:Nat):Nat:=32*(1+h*N)
def bB(D:List UInt8)(N h:Nat):List UInt8:=(D.drop (bS N h)).take (32*N)
theorem IU(l:List AR)(N h:Nat):flat ((l.drop (1+h*N)).take N)=bB (flat l) N h:=by
 unfold bB bS;rw[LA,MJ]
theorem eH{D:List UInt8}{N h:Nat}(hD:D.length=32*(2*N+1))(hh:h≤1):(bB D N h).length=32*N:=by
 unfold bB bS;rw[aAg,aBd,hD];have:h*N≤1*N:=aBa _ hh;omega
theorem qY{D:List UInt8}{N h p:Nat}(hp:p<32*N):(bB D N h)[p]?=D[bS N h+p]?:=by
 unfold bB;rw[iA,if_pos hp,aCv]
def Hc(at_ len:Nat):Nat:=if len=0 then 0 else(at_+len+31) / 32 - at_ / 32
def iT(F:Int)(a len:Nat):Bool:=decide (0≤F∧F<32*(Hc a len:Nat))
def lq(F:Int)(a len:Nat):Nat:=if 0≤F∧F<32*(Hc a len:Nat) then min len (F.toNat - a % 32) else len
def fY(F:Int)(a len:Nat):Int:=if 0≤F∧F<32*(Hc a len:Nat) then -1 else if F = -1 then -1 else F - 32*(Hc a len:Nat)
theorem Wz(F:Int)(a len:Nat):lq F a len≤len:=by unfold lq;split<;>omega
theorem zV{F:Int}{a len:Nat}(h:iT F a len=false):lq F a len=len:=by
 unfold iT at h;have h:=of_decide_eq_false h;unfold lq;rw[if_neg h]
theorem rU{F:Int}(h : -1≤F)(a len:Nat) : -1≤fY F a len:=by unfold fY;split;omega;split<;>omega
theorem R6{D b:List UInt8}{N h a i k:Nat}(hD:D.length=32*(2*N+1))(hh:h≤1)(hfit:a+b.length≤32*N)(hi0:a / 32≤i)(hi:32*i<a+b.length)(hk:k≤32) :
  sp (sp D (bS N h+a) (b.take (min b.length (32*i - a)))) (bS N h+32*i) ((((sp (bB D N h) a b).drop (32*i)).take 32).take k)=sp D (bS N h+a) (b.take (min b.length (32*i+k - a))):=by
 have hNh:h*N≤1*N:=aBa _ hh;have hfr:bS N h+32*N≤D.length:=by unfold bS;omega
 have hol:=eH (D:=D) hD hh;have h32:32*i+32≤32*N:=by omega
 have hspl:(sp (bB D N h) a b).length=32*N:=by rw[dZ o_,hol]
 have l1:(b.take (min b.length (32*i - a))).length=min b.length (32*i - a):=by rw[aAg];omega
 have l2:(b.take (min b.length (32*i+k - a))).length=min b.length (32*i+k - a):=by rw[aAg];omega
 have l3:((((sp (bB D N h) a b).drop (32*i)).take 32).take k).length=k:=by simp only[aAg,aBd];omega
 have b1:bS N h+a+(b.take (min b.length (32*i - a))).length≤D.length:=by rw[l1];omega
 have b2:bS N h+a+(b.take (min b.length (32*i+k - a))).length≤D.length:=by rw[l2];omega
 have b3:bS N h+32*i+((((sp (bB D N h) a b).drop (32*i)).take 32).take k).length≤(sp D (bS N h+a) (b.take (min b.length (32*i - a)))).length:=by rw[l3,dZ b1];omega
 apply aCk;intro j;rw[oM b3,oM b2,oM b1,l1,l2,l3];have hX:∀p,p<32*N→(sp (bB D N h) a b)[p]?=if p<a then D[bS N h+p]? else if p<a+b.length then b[p - a]? else D[bS N h+p]?:=by
  intro p hp;rw[oM o_,qY hp]
 have hS:∀t,t<k→((((sp (bB D N h) a b).drop (32*i)).take 32).take k)[t]?=(sp (bB D N h) a b)[32*i+t]?:=by
  intro t ht;rw[iA,if_pos ht,iA,if_pos o_,aCv]
 revert hX hS;generalize (((sp (bB D N h) a b).drop (32*i)).take 32).take k=Z;generalize sp (bB D N h) a b=W;generalize bS N h=f at *;intro hX hS;by_cases j1:j<f+32*i
 ·rw[if_pos j1];by_cases j2:j<f+a
  ·rw[if_pos j2,if_pos j2]
  ·rw[if_neg j2,if_neg j2];by_cases j3:j - (f+a)<b.length
   ·rw[if_pos o_,if_pos o_,iA,iA,if_pos o_,if_pos o_]
   ·rw[if_neg o_,if_neg o_]
 ·rw[if_neg j1];by_cases j4:j<f+32*i+k
  ·rw[if_pos j4,hS _ o_,hX _ o_];have e:32*i+(j - (f+32*i))=j - f:=by omega
   rw[e];by_cases j2:j<f+a
   ·rw[if_pos j2,if_pos o_];congr 1;omega
   ·rw[if_neg j2,if_neg o_];by_cases j3:j - (f+a)<b.length
    ·rw[if_pos o_,if_pos o_,iA,if_pos o_];congr 1;omega
    ·rw[if_neg o_,if_neg o_];congr 1;omega
  ·rw[if_neg j4];by_cases j2:j<f+a
   ·rw[if_pos j2,if_pos j2]
   ·rw[if_neg j2,if_neg j2,if_neg o_,if_neg o_]
theorem LC{l x:List UInt8}{k:Nat}(h:Frm.kG l=some (x,k)):l.take k=Frm.fr x∧1≤x.length∧x.length≤4096:=by
 unfold Frm.kG at h;split at h
 ·rename_i ho;injection h with h;injection h with h1 h2
  obtain⟨h3,h4,h5,h6,h7⟩:=ho;have hf:=(Frm.Hf h3 h4 h6).1 h7;subst h1 h2;refine⟨hf.symm,?_,?_⟩<;>(rw[aAg,aBd];omega)
 ·cases h
def cat(ls:List (List UInt8)):List UInt8:=(ls.map Frm.fr).flatten
theorem CY(x:List UInt8)(ls:List (List UInt8)):cat (x::ls)=Frm.fr x++cat ls:=rfl
theorem vU(a b:List (List UInt8)):cat (a++b)=cat a++cat b:=by simp[cat]
theorem yP(b:List UInt8):cat [b]=Frm.fr b:=by simp[cat]
def YO(ls:List (List UInt8)):Prop:=∀x∈ls,1≤x.length∧x.length≤4096
theorem zB(l:List UInt8):l.take (Frm.upto l)=cat (Frm.cZ l)∧YO (Frm.cZ l)∧Frm.upto l≤l.length:=by
 have key:∀(k:Nat) (l:List UInt8),l.length≤k→l.take (Frm.upto l)=cat (Frm.cZ l)∧YO (Frm.cZ l)∧Frm.upto l≤l.length:=by
  intro k
  induction k with
  |zero =>
   intro l hl;have h0:l=[]:=aBi o_;subst h0;have:=Frm.gR (l:=[]) rfl;rw[this.1,this.2];exact⟨rfl,λ_ h=>(aAk h).elim,aAf _⟩
  |succ k ih =>
   intro l hl;cases hq:Frm.kG l with
   |none =>
    have:=Frm.gR hq;rw[this.1,this.2];exact⟨rfl,λ_ h=>(aAk h).elim,aAh _⟩
   |some r =>
    obtain⟨x,n⟩:=r;have hb:=Frm.lW hq;obtain⟨h1,h2,h3⟩:=LC hq;have:=Frm.kM hq;rw[this.1,this.2];obtain⟨i1,i2,i3⟩:=ih (l.drop n) (by rw[aBd];omega);rw[aBd] at i3;refine⟨by rw[aDd,h1,i1,CY],λy hy=>?_,by omega⟩;rcases aEj.1 hy with rfl|hy
    ·exact⟨h2,h3⟩
    ·exact i2 y hy
 exact key _ l (aAf _)
theorem I9(z:Nat):Frm.kG (List.replicate z 0)=none:=by
 have:=Frm.Cp (b:=[]) (k:=0) (z:=z) (by simp) (by simp);simpa using this
theorem oW{ls:List (List UInt8)}(h:YO ls)(z:Nat):Frm.cZ (cat ls++List.replicate z 0)=ls∧Frm.upto (cat ls++List.replicate z 0)=(cat ls).length:=by
 induction ls with
 |nil =>
  have:=Frm.gR (I9 z);exact⟨this.1,this.2⟩
 |cons x ls ih =>
  have hx:=h x aBo;obtain⟨i1,i2⟩:=ih λy hy=>h y (aBl _ hy);have hg:=Frm.yY (b:=x) (t:=cat ls++List.replicate z 0) hx.1 hx.2;rw[CY,aAb,(Frm.kM hg).1,(Frm.kM hg).2,aBu (Frm.bO x),i1,i2,aAe,Frm.bO];exact⟨rfl,rfl⟩
end Go.Proofs.YtmilalkjbojciaaGreat.Sep
namespace Go.Proofs.YtmilalkjbojciaaGreat.Sep
open Go.RowKit Reg
open Mem hiding Rd
theorem MD:Rec prog 259 [.pointer none,.int .i64 0] [(0,1),(1,1)]:=⟨by kernel_rfl,by kernel_rfl⟩
instance TQ:cL 259 [.pointer none,.int .i64 0] [(0,1),(1,1)]:=⟨MD⟩
theorem SZ:Rec prog 262 [.pointer none,.int .i64 0,.slice none 0 0,.int .i64 0,.int .i64 0,.slice none 0 0] [(0,2),(2,1),(3,1),(4,1),(5,1)]:=⟨by kernel_rfl,by kernel_rfl⟩
instance WS:cL 262 [.pointer none,.int .i64 0,.slice none 0 0,.int .i64 0,.int .i64 0,.slice none 0 0] [(0,2),(2,1),(3,1),(4,1),(5,1)]:=⟨SZ⟩
abbrev XZ(gd_ N:Nat):Value:=.agg #[.pointer (some ⟨gd_,0,none⟩),.int .i64 (N:Int)]
def hb(D:List UInt8):Nat:=(D.headD 0).toNat % 2
theorem vP(D:List UInt8):hb D≤1:=by unfold hb;omega
theorem ZN(x:UInt8):Go.bits .and .u8 (x.toNat:Int) 1=((x.toNat % 2:Nat):Int):=by
 have h:∀y:Fin 256,Go.bits .and .u8 (y.1:Int) 1=((y.1 % 2:Nat):Int):=by decide +kernel
 exact h ⟨x.toNat,x.toNat_lt⟩
section
variable (E:Env) (gd_ N:Nat) (aG wr:Int) (A:Option Addr) (n c:Nat) (l:List AR)
theorem Jp(hn:n≤256)(hl:0<l.length)(hnl:n=l.length):aK prog E 177 #[XZ gd_ N] (zK gd_ true false aG wr A n c l) λe H'=>e=.returned (.int .i64 ((hb (flat l):Nat):Int))∧H'=zK gd_ true false aG wr A n c l:=by
 obtain⟨x,hx⟩:∃x,l[0].1[0]?=some x:=⟨_,aAa (i:=0) (by rw[l[0].2];omega)⟩
 have hbx:hb (flat l)=x.toNat % 2:=by
  have h1:(flat l)[0]?=some x:=by
   have h2:=GB hl;rw[h2,Nat.mul_zero,aCh,iA,if_pos o_] at hx;exact hx
  unfold hb;cases hf:flat l with
  |nil=>rw[hf] at h1;cases h1
  |cons y t=>rw[hf] at h1;injection h1 with h1;rw[h1];rfl
 have ha:=ZN x;have hw:IntKind.i64.wrap ((x.toNat % 2:Nat):Int)=((x.toNat % 2:Nat):Int):=aAq _ o_;rw[hbx];refine t_ func177 ntmps177 ?_;repeat first|refine aE ?_|intro
 refine bW (λ(E':Env)=>B0 E' gd_ true aG wr A n c l 0 hn hl hnl) ?_;rintro e H' ⟨B,d,rfl,h1,h2,rfl⟩;repeat first|refine aE ?_|intro
 exact e1_
theorem Te(h:Nat)(hn:n≤256)(hnl:n=l.length)(hh:h≤1)(hN:n=2*N+1):aK prog E 222 #[XZ gd_ N,.int .i64 (h:Int)] (zK gd_ true false aG wr A n c l) λe H'=>∃O d,e=.returned (.slice O (32*N) d)∧(32*N≤d∧d≤maxLen)∧H'=own aU O (32*N) d (bB (flat l) N h)::zK gd_ true false aG wr A n c l:=by
 have hmax:=fX;obtain⟨q,hq⟩:∃q,h*N=q:=⟨_,rfl⟩
 have hqN:q≤N:=by rw[←hq];have:h*N≤1*N:=aBa _ hh;omega
 have hmul:IntKind.i64.wrap ((h:Int)*(N:Int))=(q:Int):=by rw[←hq,aAq _ (by rw[←Int.natCast_mul,hq];omega),Int.natCast_mul]
 rw[←IU,hq];refine t_ func222 ntmps222 ?_;repeat first|refine aE ?_|intro
 rename_i g2;refine C.loop (X:=Nat×Option Addr×Nat) (λx=>[(1,.int .i64 (h:Int)),(2,.pointer (some ⟨g2,0,none⟩)),(5,.slice x.2.1 (32*x.1) x.2.2),(10,.int .i64 N),(11,.int .i64 x.1)])
  (λx=>own aU x.2.1 (32*x.1) x.2.2 (flat ((l.drop (1+q)).take x.1))::aJ g2 259 [.pointer (some ⟨gd_,0,none⟩),.int .i64 (N:Int)]::zK gd_ true false aG wr A n c l) (λx=>x.1≤N∧32*x.1≤x.2.2∧x.2.2≤maxLen) (λx=>N - x.1) (0,none,0) aD (aB.nil aU) ⟨aAh _,aAh _,aAh _⟩ ?_
 rintro⟨i,O,d⟩ G ⟨hi,hd,hd2⟩;dsimp only at hi hd hd2⊢;by_cases hlt:i<N
 ·have hlen:1+q+i<l.length:=by omega
  have e1:IntKind.i64.wrap (IntKind.i64.wrap (1+(q:Int))+(i:Int))=((1+q+i:Nat):Int):=by rw[aAq (1+(q:Int)) o_,aAq _ o_];omega
  have e0:IntKind.i64.wrap (1+(q:Int))=1+(q:Int):=aAq _ o_;have e2:IntKind.i64.wrap (1+(q:Int)+(i:Int))=((1+q+i:Nat):Int):=by rw[e0] at e1;exact e1
  have hst:flat ((l.drop (1+q)).take (i+1))=flat ((l.drop (1+q)).take i)++l[1+q+i].1:=by
   rw[Be (by rw[aBd];omega),List.getElem_drop]
  repeat first|refine aE ?_|intro
  refine bW (λ(E':Env)=>B0 E' gd_ true aG wr A n c l (1+q+i) hn hlen hnl) ?_;rintro e H' ⟨B,d2,rfl,h1,h2,rfl⟩;repeat first|refine aE ?_|intro
  exact⟨(i+1,_,_),aD,by dsimp only;rw[hst,show 32*(i+1)=32*i+32 by omega];exact aA,⟨by dsimp only;omega,by dsimp only;omega,by dsimp only;omega⟩,by dsimp only;omega⟩
 ·obtain rfl:i=N:=by omega
  repeat first|refine aE ?_|intro
  exact jQ ⟨_,_,rfl,⟨hd,hd2⟩,rfl⟩
end
section
variable (E:Env) (gd_ N:Nat) (aG wr:Int) (A:Option Addr) (n c:Nat) (l:List AR)
theorem Rj(B:Option Addr)(m d:Nat)(b:List UInt8)(i:Nat)(hm:m=32)(hb:b.length=32)(hr:Rd E aU B m d b)(hn:n≤256)(hi:i<l.length)(ha : -1≤aG)(ha2:aG≤9223372036854775807)(hw:0≤wr)(hw2:wr≤100000000000000) :
  aK prog E 233 #[.pointer (some ⟨gd_,0,none⟩),.int .i64 i,.slice B m d] (zK gd_ true false aG wr A n c l) λe H'=>e=.returned (.bool (!jD aG)) ∧
   H'=zK gd_ true (jD aG) (gX aG) (wr+wk aG) A n c (l.set i (front (wk aG) b hb (pL _) l[i])):=by
 subst hm;exact DT E gd_ true aG wr A n c l B d b i hb hr hn hi ha ha2 hw hw2
def uS(gd_ N:Nat)(aG wr:Int)(A:Option Addr)(n c:Nat)(l:List AR)(h a:Nat)(b:List UInt8):Ending→List aL→Prop:=λe H' =>
 ∃l' wr',e=.returned (.bool (!iT aG a b.length))∧l'.length=l.length∧flat l'=sp (flat l) (bS N h+a) (b.take (lq aG a b.length))∧wr≤wr'∧wr'≤wr+2048∧H'=zK gd_ true (iT aG a b.length) (fY aG a b.length) wr' A n c l'
theorem TF(h a:Nat)(B:Option Addr)(m cb:Nat)(b:List UInt8)(hr:Rd E aU B m cb b)(hn:n≤256)(hnl:n=l.length)(hh:h≤1)(hN:n=2*N+1)(hN64:N≤64)(ha : -1≤aG)(ha2:aG≤9223372036854775807)(hw:0≤wr)(hw2:wr≤90000000000000)(hfit:a+b.length≤32*N) :
  aK prog E 176 #[XZ gd_ N,.int .i64 (h:Int),.int .i64 (a:Int),.slice B m cb] (zK gd_ true false aG wr A n c l) (uS gd_ N aG wr A n c l h a b):=by
 have hmax:=fX;have hm:=hr.len;have hcb:=hr.cap;have hD:(flat l).length=32*(2*N+1):=by rw[eI];omega
 have hol:=eH (D:=flat l) hD hh;unfold uS;refine t_ func176 ntmps176 ?_;repeat first|refine aE ?_|intro
 rename_i g4;refine bW (λ(E':Env)=>Te E' gd_ N aG wr A n c l h hn hnl hh hN) ?_;rintro e H' ⟨O,d,rfl,⟨hd1,hd2⟩,rfl⟩;refine gk bG ?_;by_cases hb0:m=0
 ·have hbn:b=[]:=aBi o_;subst hb0 hbn;have h1:iT aG a ([]:List UInt8).length=false:=by unfold iT Hc;exact decide_eq_false (by simp<;>omega)
  have h2:fY aG a ([]:List UInt8).length=aG:=by
   unfold fY Hc;rw[if_neg (by simp<;>omega)];split
   ·rename_i h;exact h.symm
   ·simp
  rw[h1,h2];repeat first|refine aE ?_|intro
  exact aR rfl aF aA (⟨l,wr,rfl,rfl,by rw[List.take_nil,Cm],aCd _,by omega,rfl⟩)
 have hab:IntKind.i64.wrap ((a:Int)+(m:Int))=((a+m:Nat):Int):=by rw[aAq _ o_];omega
 have hq32:IntKind.i64.wrap ((a:Int).tdiv 32)=((a / 32:Nat):Int):=by
  rw[show(a:Int).tdiv 32=((a / 32:Nat):Int) by rw[aFg o_];omega];exact aAq _ o_
 repeat first|refine aE ?_|intro
 refine L.fQ sD (S.QQ (T:=aU) rfl rfl rfl qF dH rfl o_ o_ o_ o_) ?_;rintro _ _ ⟨rfl,rfl⟩;rw[show Sep.lay (bB (flat l) N h) a b=sp (bB (flat l) N h) a b from rfl];obtain⟨q,hq⟩:∃q,h*N=q:=⟨_,rfl⟩
 have hqN:q≤N:=by rw[←hq];have:h*N≤1*N:=aBa _ hh;omega
 have hmul:IntKind.i64.wrap ((h:Int)*(N:Int))=(q:Int):=by rw[←hq,aAq _ (by rw[←Int.natCast_mul,hq];omega),Int.natCast_mul]
 have hfr:bS N h=32*(1+q):=by unfold bS;rw[hq]
 have hSl:(sp (bB (flat l) N h) a b).length=32*N:=by rw[dZ o_,hol]
 repeat first|refine aE ?_|intro
 refine C.loop (X:=Nat×List AR×Int×Int) (λx=>[(1,.int .i64 (h:Int)),(2,.int .i64 (a:Int)),(3,.slice B m cb),(4,.pointer (some ⟨g4,0,none⟩)),(9,.slice O (32*N) d),(10,.int .i64 x.1)])
  (λx=>own aU O (32*N) d (sp (bB (flat l) N h) a b)::aJ g4 259 [.pointer (some ⟨gd_,0,none⟩),.int .i64 (N:Int)]::zK gd_ true false x.2.2.1 x.2.2.2 A n c x.2.1)
  (λx=>a / 32≤x.1∧32*x.1<a+m+32∧x.2.1.length=l.length∧flat x.2.1=sp (flat l) (bS N h+a) (b.take (min b.length (32*x.1 - a)))∧((aG = -1∧x.2.2.1 = -1)∨(0≤x.2.2.1∧x.2.2.1=aG - 32*((x.1:Int) - (a / 32:Nat))))∧x.2.2.2=wr+32*((x.1:Int) - (a / 32:Nat)))
  (λx=>a+m+32 - 32*x.1) (a / 32,l,aG,wr) aD aA ⟨aAf _,by dsimp only;omega,rfl,by dsimp only;rw[show 32*(a / 32) - a=0 by omega,aFe (aAh _),aCg,Cm],by dsimp only;omega,by dsimp only;omega⟩ ?_
 rintro⟨i,li,Fi,wi⟩ G ⟨hi0,hi1,hli,hfl,hF,hwi⟩;dsimp only at hi0 hi1 hli hfl hF hwi⊢;have hi32:IntKind.i64.wrap ((i:Int)*32)=((32*i:Nat):Int):=by rw[aAq _ o_];omega
 by_cases hlt:32*i<a+m
 ·have hi33:IntKind.i64.wrap (((i:Int)+1)*32)=((32*i+32:Nat):Int):=by rw[aAq _ o_];omega
  have e0:IntKind.i64.wrap (1+(q:Int))=1+(q:Int):=aAq _ o_;have e2:IntKind.i64.wrap (1+(q:Int)+(i:Int))=((1+q+i:Nat):Int):=by rw[aAq _ o_];omega
  have hlen:1+q+i<li.length:=by omega
  have hnli:n=li.length:=by omega
  have h32:32*i+32≤32*N:=by omega
  have hsub:32*i+32 - 32*i=32:=by omega
  have hFi1 : -1≤Fi:=by omega
  have hFi2:Fi≤9223372036854775807:=by omega
  have hwi1:0≤wi:=by omega
  have hwi2:wi≤100000000000000:=by omega
  have hcl:(((sp (bB (flat l) N h) a b).take (32*i+32)).drop (32*i)).length=32:=by rw[aBd,aAg,hSl];omega
  have hfl2:flat (li.set (1+q+i) (front (wk Fi) _ hcl (pL _) li[1+q+i]))=sp (flat l) (bS N h+a) (b.take (min b.length (32*i+wk Fi - a))):=by
   rw[F4 hcl (pL _) hlen,hfl,List.drop_take,hsub,show 32*(1+q+i)=bS N h+32*i by rw[hfr];omega];exact R6 hD hh hfit hi0 o_ (pL _)
  have hcn:Hc a b.length=(a+b.length+31) / 32 - a / 32:=by unfold Hc;rw[if_neg o_]
  repeat first|refine aE ?_|intro
  refine rB (l_ [0,1,2,3,4,5,6,7,8,9,10,11,12,13,14,15] (g_ 16 (n_ 17 .nil))) ([own aU O (32*N) d (sp (bB (flat l) N h) a b),aJ g4 259 [.pointer (some ⟨gd_,0,none⟩),.int .i64 (N:Int)]]) ?_;repeat first|refine aE ?_|intro
  refine cg rfl sD bA sK aC (λE' hE=>Rj E' gd_ Fi wi A n c li _ _ _ _ (1+q+i) hsub hcl (Rd.cut (Sub.own hE aS) o_ o_) hn hlen hFi1 hFi2 hwi1 hwi2) ?_;cases hwd:jD Fi
  ·unfold jD at hwd;have hwd:=of_decide_eq_false hwd;have hk:wk Fi=32:=by unfold wk;rw[if_neg hwd]
   rintro e H' ⟨rfl,rfl⟩;repeat first|refine aE ?_|intro
   refine⟨(i+1,_,_,_),aD,aA,⟨by dsimp only;omega,by dsimp only;omega,by dsimp only;rw[aAt];exact hli,?_,?_,?_⟩,by dsimp only;omega⟩
   ·dsimp only;rw[hfl2,hk];rfl
   ·dsimp only;unfold gX;rw[if_neg hwd];split<;>omega
   ·dsimp only;rw[hk];omega
  ·unfold jD at hwd;have hwd:=of_decide_eq_true hwd;have hk:wk Fi=Fi.toNat:=by unfold wk;rw[if_pos hwd]
   have hcut:0≤aG∧aG<32*(Hc a b.length:Nat):=by rw[hcn];omega
   have h1:iT aG a b.length=true:=decide_eq_true hcut;have h2:fY aG a b.length = -1:=by unfold fY;rw[if_pos hcut]
   have h3:lq aG a b.length=min b.length (32*i+wk Fi - a):=by unfold lq;rw[if_pos hcut,hk];omega
   have h4:gX Fi = -1:=by unfold gX;rw[if_pos hwd]
   rw[h1,h2,h3,h4];rintro e H' ⟨rfl,rfl⟩;repeat first|refine aE ?_|intro
   exact aR rfl aF aA (⟨_,_,rfl,by rw[aAt];exact hli,hfl2,by rw[hk];omega,by rw[hk];omega,rfl⟩)
 ·have hcn:Hc a b.length=(a+b.length+31) / 32 - a / 32:=by unfold Hc;rw[if_neg o_]
  have hcut:¬(0≤aG∧aG<32*(Hc a b.length:Nat)):=by rw[hcn];omega
  have h1:iT aG a b.length=false:=decide_eq_false hcut;have h2:fY aG a b.length=Fi:=by unfold fY;rw[if_neg hcut,hcn];split<;>omega
  have h3:lq aG a b.length=min b.length (32*i - a):=by unfold lq;rw[if_neg hcut];omega
  rw[h1,h2,h3];repeat first|refine aE ?_|intro
  exact aR rfl aF aA (⟨li,wi,rfl,hli,hfl,by omega,by omega,rfl⟩)
end
theorem YL(x:UInt8):Go.bits .andNot .u8 (x.toNat:Int) 1=((x.toNat / 2*2:Nat):Int):=by
 have h:∀y:Fin 256,Go.bits .andNot .u8 (y.1:Int) 1=((y.1 / 2*2:Nat):Int):=by decide +kernel
 exact h ⟨x.toNat,x.toNat_lt⟩
theorem XA(x:UInt8):Go.bits .or .u8 ((x.toNat / 2*2:Nat):Int) ((1 - x.toNat % 2:Nat):Int)=((x ^^^ 1).toNat:Int):=by
 have h:∀y:Fin 256,Go.bits .or .u8 ((y.1 / 2*2:Nat):Int) ((1 - y.1 % 2:Nat):Int)=((UInt8.ofNat y.1 ^^^ 1).toNat:Int):=by decide +kernel
 have h2:=h ⟨x.toNat,x.toNat_lt⟩;rw[UInt8.ofNat_toNat] at h2;exact h2
def tx(D:List UInt8):UInt8:=D.headD 0 ^^^ 1
section
variable (E:Env) (gd_ N:Nat) (aG wr:Int) (A:Option Addr) (n c:Nat) (l:List AR)
theorem Wy(hn:n≤256)(hl:0<l.length)(hnl:n=l.length)(ha : -1≤aG)(ha2:aG≤9223372036854775807)(hw:0≤wr)(hw2:wr≤100000000000000) :
  aK prog E 262 #[XZ gd_ N,.int .i64 ((1 - hb (flat l):Nat):Int)] (zK gd_ true false aG wr A n c l) λe H'=>∃l' wr',e=.returned (.bool (!jD aG))∧l'.length=l.length∧flat l'=sp (flat l) 0 (if wk aG=0 then[] else[tx (flat l)])∧wr≤wr'∧wr'≤wr+32∧H'=zK gd_ true (jD aG) (gX aG) wr' A n c l':=by
 obtain⟨x,hx⟩:∃x,l[0].1[0]?=some x:=⟨_,aAa (i:=0) (by rw[l[0].2];omega)⟩
 have hsec:=GB hl;rw[Nat.mul_zero,aCh] at hsec;have h1:(flat l)[0]?=some x:=by
  rw[hsec,iA,if_pos o_] at hx;exact hx
 have hhd:(flat l).headD 0=x:=by
  cases hf:flat l with
  |nil=>rw[hf] at h1;cases h1
  |cons y t=>rw[hf] at h1;injection h1
 have hbx:hb (flat l)=x.toNat % 2:=by unfold hb;rw[hhd]
 have htx:tx (flat l)=x ^^^ 1:=by unfold tx;rw[hhd]
 have t1:=YL x;have t2:=XA x;have hw8:IntKind.u8.wrap ((1 - x.toNat % 2:Nat):Int)=((1 - x.toNat % 2:Nat):Int):=IntWalk.u8_in _ o_;have hb32:(l[0].1.set 0 (x ^^^ 1)).length=32:=by rw[aAt];exact l[0].2
 have hfl:flat (l.set 0 (front (wk aG) (l[0].1.set 0 (x ^^^ 1)) hb32 (pL _) l[0]))=sp (flat l) 0 (if wk aG=0 then[] else[tx (flat l)]):=by
  rw[F4 hb32 (pL _) hl,Nat.mul_zero,htx];have hll:32≤(flat l).length:=by rw[eI];omega
  have hk:=pL aG;by_cases hz:wk aG=0
  ·rw[hz,aCg,if_pos rfl]
  ·rw[if_neg hz];apply aCk;intro j;have l1:((l[0].1.set 0 (x ^^^ 1)).take (wk aG)).length=wk aG:=by rw[aAg,hb32];omega
   rw[oM (by rw[l1];omega),oM (by show 0+1≤_;omega),l1];rw[if_neg (aFk j),aDa];try rw[if_neg (aFk j)]
   by_cases hj:j=0
   ·subst hj;rw[if_pos o_,if_pos o_,iA,if_pos o_,List.getElem?_set_self (by rw[l[0].2];omega)];rfl
   ·by_cases hj2:j<wk aG
    ·rw[if_pos o_,if_neg o_,iA,if_pos o_,Nat.sub_zero,aEq o_,hsec,iA,if_pos o_]
    ·rw[if_neg o_,if_neg o_]
 rw[hbx];refine t_ func262 ntmps262 ?_;repeat first|refine aE ?_|intro
 refine bW (λ(E':Env)=>B0 E' gd_ true aG wr A n c l 0 hn hl hnl) ?_;rintro e H' ⟨B,d,rfl,h3,h4,rfl⟩;repeat first|refine aE ?_|intro
 refine eV (λ(E':Env) h1=>DT E' gd_ true aG wr A n c l B d _ 0 hb32 h1 hn hl ha ha2 hw hw2) ?_;repeat first|refine aE ?_|intro
 have hk:=pL aG;exact aR rfl aF aA (⟨_,_,rfl,by rw[aAt],hfl,by omega,by omega,rfl⟩)
end
structure WL where
 N:Nat
 R:Option Addr
 m:Nat
 rc:Nat
 bF:List Oc
 kE:Nat
 pos:Nat
 P:Option Addr
 p:Nat
 pc:Nat
 cG:List UInt8
 dead:Bool
 aG:Int
 wr:Int
 A:Option Addr
 k:Nat
 c:Nat
 jM:List AR
abbrev Mk(g gd_:Nat)(w:WL):aL:=aJ g 262 [.pointer (some ⟨gd_,0,none⟩),.int .i64 (w.N:Int),.slice w.R w.m w.rc,.int .i64 (w.kE:Int),.int .i64 (w.pos:Int),.slice w.P w.p w.pc]
abbrev Es(g gd_:Nat)(w:WL):List aL:=[Mk g gd_ w,own vQ w.R w.m w.rc w.bF,aO uL w.bF,own aU w.P w.p w.pc w.cG,Cy gd_ true w.dead w.aG w.wr w.A w.k w.c,own sH w.A w.k w.c w.jM]
structure LS where
 N:Nat
 D:List UInt8
 bF:List (List UInt8)
 kE:Nat
 pos:Nat
 cG:List UInt8
 dead:Bool
 aG:Int
def WL.s(w:WL):LS:=⟨w.N,flat w.jM,w.bF.map (·.b),w.kE,w.pos,w.cG,w.dead,w.aG⟩
structure WL.ok(w:WL):Prop where
 hm:w.m=w.bF.length
 hp:w.p=w.cG.length
 hk:w.k=w.jM.length
 n0:1≤w.N
 n1:w.N≤64
 len:w.k=2*w.N+1
 a0 : -1≤w.aG
 a1:w.aG≤9223372036854775807
 w0:0≤w.wr
 fit:w.pos+w.p≤32*w.N
 bF:w.m≤100000
 kE:w.kE≤w.m
 wide:∀x∈w.bF,x.n=x.b.length∧x.b.length≤4096
section
variable (E:Env) (g gd_:Nat) (w:WL)
theorem W4:aK prog E 174 #[.pointer (some ⟨g,0,none⟩)] [Mk g gd_ w] λe H'=>e=.returned (.bool true)∧H'=[Mk g gd_ w]:=by
 refine t_ func174 ntmps174 ?_;repeat first|refine aE ?_|intro
 exact e1_
theorem W6(h:w.ok):aK prog E 285 #[.pointer (some ⟨g,0,none⟩)] [Mk g gd_ w] λe H'=>e=.returned (.int .i64 ((32*w.N - w.pos - w.p:Nat):Int))∧H'=[Mk g gd_ w]:=by
 have hmax:=fX;have h1:=h.n1;have h2:=h.fit;have e1:IntKind.i64.wrap ((w.N:Int)*32)=(w.N:Int)*32:=aAq _ o_;have e2:IntKind.i64.wrap ((w.N:Int)*32 - (w.pos:Int))=(w.N:Int)*32 - (w.pos:Int):=aAq _ o_;have e3:IntKind.i64.wrap ((w.N:Int)*32 - (w.pos:Int) - (w.p:Int))=((32*w.N - w.pos - w.p:Nat):Int):=by rw[aAq _ o_];omega
 have hp:w.p≤maxLen:=by omega
 refine t_ func285 ntmps285 ?_;repeat first|refine aE ?_|intro
 refine bK (λ(E':Env)=>W4 E' g gd_ w) ?_;repeat first|refine aE ?_|intro
 refine rA (l_ [0,1,2,3,4,5,6,7,8,9,10,11,12,13,14,15,16,17] .nil) ?_;repeat first|refine aE ?_|intro
 exact e1_
end
def LS.append(s:LS)(b:List UInt8):Int×LS :=
 if b.length=0 then(4,s) else if 4096<b.length then(5,s) else if 32*s.N - s.pos - s.cG.length<b.length+7 then(10,s) else(0,⟨s.N,s.D,s.bF++[b],s.kE,s.pos,s.cG++Frm.fr b,s.dead,s.aG⟩)
def pA(g gd_:Nat)(w:WL)(z:Int×LS)(K:Int):Ending→List aL→Prop:=λe H' =>
 ∃w':WL,e=.returned (.int .i64 z.1)∧w'.ok∧w'.s=z.2∧w'.wr≤w.wr+K∧w'.m≤w.m+1∧H'=Es g gd_ w'
theorem gP{P:Program}{E:Env}{fn:Func}{R:Ending→List aL→Prop}{F:Nat→Value}{H H1:List aL}{e:Ex}(hc:aB E H H1)(h:gF P E fn R e F H1)(hp:∀c,e≠.panic c:=by intro c h;cases h):gF P E fn R e F H:=by
 cases e with
 |panic c=>exact absurd rfl (hp c)
 |normal=>obtain⟨v,H',h1,h2,h3⟩:=h;exact⟨v,H',λw hw=>h1 w (hc w hw),hc.trans h2,h3⟩
 |ret=>obtain⟨v,H',h1,h2,h3⟩:=h;exact⟨v,H',λw hw=>h1 w (hc w hw),hc.trans h2,h3⟩
 |exit=>exact h.elim
section
variable (E:Env) (g gd_:Nat) (w:WL)
theorem PH(h:w.ok):aK prog E 225 #[.pointer (some ⟨g,0,none⟩)] [Mk g gd_ w,own vQ w.R w.m w.rc w.bF,aO uL w.bF] λe H'=>∃O oc xs,e=.returned (.slice O w.m oc)∧xs.length=w.m∧xs.map Oc.b=w.bF.map Oc.b∧(w.m≤oc∧oc≤maxLen)∧(∀x∈xs,x.n=x.b.length∧x.b.length≤4096)∧H'=[own vQ O w.m oc xs,aO uL xs,Mk g gd_ w,own vQ w.R w.m w.rc w.bF,aO uL w.bF]:=by
 have hmax:=fX;have h1:=h.bF;have hwm:=h.hm;have hlm:w.m≤maxLen:=by omega
 refine t_ func225 ntmps225 ?_;repeat first|refine aE ?_|intro
 refine bK (λ(E':Env)=>W4 E' g gd_ w) ?_;repeat first|refine aE ?_|intro
 refine C.loop (X:=Nat×Option Addr×Nat×List Oc) (λx=>[(3,.slice x.2.1 x.1 x.2.2.1),(12,.slice w.R w.m w.rc),(13,.int .i64 (w.m:Nat)),(14,.int .i64 x.1)])
  (λx=>[own vQ x.2.1 x.1 x.2.2.1 x.2.2.2,aO uL x.2.2.2,Mk g gd_ w,own vQ w.R w.m w.rc w.bF,aO uL w.bF]) (λx=>x.1≤w.m∧x.2.2.2.length=x.1∧x.2.2.2.map Oc.b=(w.bF.take x.1).map Oc.b∧(x.1≤x.2.2.1∧x.2.2.1≤maxLen)∧∀y∈x.2.2.2,y.n=y.b.length∧y.b.length≤4096) (λx=>w.m - x.1) (0,none,0,[]) aD ((aB.kP uL).trans ((aB.oR vQ none).trans aA)) ⟨aAh _,rfl,rfl,⟨aAf _,aAh _⟩,λy hy=>(aAk hy).elim⟩ ?_
 rintro⟨i,O,oc,xs⟩ F ⟨hi,hxl,hxm,hoc,hxw⟩;dsimp only at hi hxl hxm hoc hxw⊢;by_cases hlt:i<w.m
 ·obtain⟨x,hx⟩:∃x,w.bF[i]?=some x:=⟨_,aAa o_⟩
  have hst:(w.bF.take (i+1)).map Oc.b=(w.bF.take i).map Oc.b++[x.b]:=by rw[aAn o_,aBk,(aAd.1 hx).2];rfl
  have hxwd:=h.wide x (aAi hx);repeat first|refine aE ?_|intro
  refine L.fQ sD (S.KA (T:=aU) (l2:=x.b) rfl rfl rfl (n':=x.n) (aCa _) (λ_ _=>dH) (kV.aO (f:=uL) aS hx rfl) (aBq _) rfl (by_:=1) rfl nG nG) ?_;rintro _ _ ⟨A',c',⟨k1,k2⟩,rfl,rfl⟩;repeat first|refine aE ?_|intro
  refine L.fQ sD (S.cB (T:=vQ) (e:=(⟨A',x.n,c',x.b⟩:Oc)) rfl rfl rfl rfl sD) ?_;rintro _ _ ⟨_,rfl,rfl⟩;repeat first|refine aE ?_|intro
  rename_i O2 c2 k3 k4;refine⟨(i+1,O2,c2,xs++[(⟨A',x.n,c',x.b⟩:Oc)]),aD,aB.trans (aB.push (f:=uL) (l:=xs) (x:=⟨A',x.n,c',x.b⟩) aC) aA,⟨by dsimp only;omega,by dsimp only;rw[aAe,hxl];rfl,by dsimp only;rw[hst,aBk,hxm];rfl,⟨k3,k4⟩,λy hy=>?_⟩,by dsimp only;omega⟩;rcases aBg.1 hy with hy|hy
  ·exact hxw y hy
  ·rw[aAp] at hy;subst hy;exact hxwd
 obtain rfl:i=w.m:=by omega
 rw[aAj o_] at hxm;repeat first|refine aE ?_|intro
 exact jQ ⟨O,oc,xs,rfl,hxl,hxm,hoc,hxw,rfl⟩
theorem RK(h:w.ok)(hrl:w.m+1≤100000)(X:Option Addr)(nx cx:Nat)(b:List UInt8)(hr:Rd E aU X nx cx b) :
  aK prog E 229 #[.pointer (some ⟨g,0,none⟩),.slice X nx cx] (Es g gd_ w) (pA g gd_ w (w.s.append b) 0):=by
 have hmax:=fX;have hnx:=hr.len;have hcx:=hr.cap;have hn1':=h.n0;have hn1:=h.n1;have hfit:=h.fit;have hdur:=h.kE;have hwm:=h.hm;have hwp:=h.hp;have hplm:w.p≤maxLen:=by omega
 have hap:w.s.append b=if b.length=0 then(4,w.s) else if 4096<b.length then(5,w.s) else if 32*w.N - w.pos - w.cG.length<b.length+7 then(10,w.s) else(0,⟨w.N,flat w.jM,w.bF.map (·.b)++[b],w.kE,w.pos,w.cG++Frm.fr b,w.dead,w.aG⟩):=rfl
 have hsame:∀z:Int,pA g gd_ w (z,w.s) 0 (.returned (.int .i64 z)) (Es g gd_ w):=λz=>⟨w,rfl,h,rfl,by omega,by omega,rfl⟩
 rw[hap];refine t_ func229 ntmps229 ?_;repeat first|refine aE ?_|intro
 refine bK (λ(E':Env)=>W4 E' g gd_ w) ?_;repeat first|refine aE ?_|intro
 by_cases h0:b.length=0
 ·rw[if_pos h0];obtain rfl:nx=0:=by omega
  refine bK (λ(E':Env)=>QN E' X cx) ?_;repeat first|refine aE ?_|intro
  exact jQ (hsame 4)
 rw[if_neg h0];by_cases h5:4096<b.length
 ·rw[if_pos h5];refine eV (λ(E':Env) h1=>D5 E' X nx cx b h1 (by omega)) ?_;repeat first|refine aE ?_|intro
  exact jQ (hsame 5)
 rw[if_neg h5];refine dX (λ(E':Env) h1=>uR E' X nx cx b h1 (by omega) (by omega)) ?_;rintro e H' ⟨A1,c1,rfl,rfl⟩;refine gk bG ?_;have hn7:nx+7≤maxLen:=by omega
 repeat first|refine aE ?_|intro
 refine bK (λ(E':Env)=>W6 E' g gd_ w h) ?_;rw[←hwp];by_cases hrm:32*w.N - w.pos - w.p<b.length+7
 ·rw[if_pos hrm];have ht:decide (((32*w.N - w.pos - w.p:Nat):Int)<((nx+7:Nat):Int))=true:=decide_eq_true o_;repeat first|refine aE ?_|intro
  exact jQ (hsame 10)
 rw[if_neg hrm];have ht:decide (((32*w.N - w.pos - w.p:Nat):Int)<((nx+7:Nat):Int))=false:=decide_eq_false o_;repeat first|refine aE ?_|intro
 rename_i P2 pc2 k1 k2;have hrm2:w.m≤maxLen:=by omega
 refine C.bL 12 (l_ [0,1,2,3,4,6] (g_ 5 (g_ 7 (g_ 8 (g_ 9 (l_ [10,11] (g_ 12 .nil))))))) ([aJ g 262 [.pointer (some ⟨gd_,0,none⟩),.int .i64 (w.N:Int),.slice w.R w.m w.rc,.int .i64 (w.kE:Int),.int .i64 (w.pos:Int),.slice P2 (w.p+(nx+7)) pc2]]) q_ q_ aA ?_;repeat first|refine aE ?_|intro
 rename_i A3 c3 k3 k4;refine Dr.Aw rfl (by rintro k ⟨⟩<;>decide) bA (S.cB (T:=vQ) (e:=(⟨A3,nx,c3,b⟩:Oc)) rfl rfl rfl rfl sD) ?_;rintro _ _ ⟨_,rfl,rfl⟩;refine⟨aA,?_⟩;repeat first|refine aE ?_|intro
 rename_i R2 rc2 k5 k6;have hwide:∀x∈w.bF++[(⟨A3,nx,c3,b⟩:Oc)],x.n=x.b.length∧x.b.length≤4096:=by
  intro x hx;rcases aBg.1 hx with hx|hx
  ·exact h.wide x hx
  ·rw[aAp] at hx;subst hx;exact⟨hnx,by dsimp only;omega⟩
 refine gP (aB.push (f:=uL) (l:=w.bF) (x:=⟨A3,nx,c3,b⟩) aC) ?_;exact aR rfl aF aA (⟨⟨w.N,R2,w.m+1,rc2,w.bF++[(⟨A3,nx,c3,b⟩:Oc)],w.kE,w.pos,P2,w.p+(nx+7),pc2,w.cG++Frm.fr b,w.dead,w.aG,w.wr,w.A,w.k,w.c,w.jM⟩,rfl,⟨by dsimp only;rw[aAe,hwm];rfl,by dsimp only;rw[aAe,Frm.bO,hwp,hnx],h.hk,hn1',hn1,h.len,h.a0,h.a1,h.w0,by dsimp only;omega,by dsimp only;omega,by dsimp only;omega,hwide⟩,by unfold WL.s;dsimp only;rw[aBk];rfl,by dsimp only;omega,by dsimp only;omega,rfl⟩)
end
def LS.new(k:Nat):LS:=⟨k,List.replicate (32*(2*k+1)) 0,[],0,0,[],false,-1⟩
theorem Iz(m:Nat):flat (List.replicate m Ek)=List.replicate (32*m) 0:=by
 induction m with
 |zero=>rfl
 |succ m ih =>
  rw[List.replicate_succ,show 32*(m+1)=32+32*m by omega,←List.replicate_append_replicate,←ih];rfl
def LS.sync(s:LS):Int×LS :=
 if s.dead=true then(19,s) else if iT s.aG s.pos s.cG.length=true then(19,⟨s.N,sp s.D (bS s.N (hb s.D)+s.pos) (s.cG.take (lq s.aG s.pos s.cG.length)),s.bF,s.kE,s.pos,s.cG,true,fY s.aG s.pos s.cG.length⟩)
 else(0,⟨s.N,sp s.D (bS s.N (hb s.D)+s.pos) s.cG,s.bF,s.bF.length,s.pos+s.cG.length,[],false,fY s.aG s.pos s.cG.length⟩)
section
variable (E:Env) (g gd_:Nat) (w:WL)
theorem XX(h:w.ok)(hwr:w.wr≤90000000000000):aK prog E 112 #[.pointer (some ⟨g,0,none⟩)] (Es g gd_ w) (pA g gd_ w w.s.sync 2048):=by
 have hmax:=fX;have hn0:=h.n0;have hn1:=h.n1;have hlen:=h.len;have hfit:=h.fit;have hdur:=h.kE;have hrecs:=h.bF;have hwm:=h.hm;have hwp:=h.hp;have hwk:=h.hk;have hn256:w.k≤256:=by omega
 have hl0:0<w.jM.length:=by have:=h.hk;omega
 have hfit2:w.pos+w.cG.length≤32*w.N:=by have:=h.hp;omega
 have hplm:w.p≤maxLen:=by omega
 have hrlm:w.m≤maxLen:=by omega
 have hsy:w.s.sync=if w.dead=true then(19,w.s) else if iT w.aG w.pos w.cG.length=true then(19,⟨w.N,sp (flat w.jM) (bS w.N (hb (flat w.jM))+w.pos) (w.cG.take (lq w.aG w.pos w.cG.length)),w.bF.map (·.b),w.kE,w.pos,w.cG,true,fY w.aG w.pos w.cG.length⟩)
  else(0,⟨w.N,sp (flat w.jM) (bS w.N (hb (flat w.jM))+w.pos) w.cG,w.bF.map (·.b),(w.bF.map (·.b)).length,w.pos+w.cG.length,[],false,fY w.aG w.pos w.cG.length⟩):=rfl
 rw[←h.hp,aAw,←h.hm] at hsy;rw[hsy];refine t_ func112 ntmps112 ?_;repeat first|refine aE ?_|intro
 refine bK (λ(E':Env)=>W4 E' g gd_ w) ?_;repeat first|refine aE ?_|intro
 refine bW (λ(E':Env)=>CL E' gd_ true w.dead w.aG w.wr w.A w.k w.c) ?_;rcases aBh w.dead with hd|hd
 ·rw[if_pos hd];have hpost:pA g gd_ w (19,w.s) 2048 (.returned (.int .i64 19)) (Es g gd_ w):=⟨w,rfl,h,rfl,by omega,by omega,rfl⟩
  rintro e H' ⟨rfl,rfl⟩;repeat first|refine aE ?_|intro
  exact jQ (hpost)
 rw[if_neg (by rw[hd];exact aAl)];rintro e H' ⟨rfl,rfl⟩;rw[hd];repeat first|refine aE ?_|intro
 refine rB (l_ [0,1,2,3,4,5,6,7,9,10,11,12,13,14,15,16] (g_ 8 (g_ 17 (l_ [18,19] .nil)))) ([Mk g gd_ w]) ?_;repeat first|refine aE ?_|intro
 refine eJ (λ(E':Env)=>Jp E' gd_ w.N w.aG w.wr w.A w.k w.c w.jM hn256 hl0 hwk) ?_;repeat first|refine aE ?_|intro
 refine cg rfl sD bA sK aC (λE' hE=>TF E' gd_ w.N w.aG w.wr w.A w.k w.c w.jM (hb (flat w.jM)) w.pos w.P w.p w.pc w.cG (Sub.own hE aS) hn256 hwk (vP _) hlen hn1 h.a0 h.a1 h.w0 hwr hfit2) ?_;unfold uS;rw[←hwp];rintro e H' ⟨l',wr',rfl,hl',hfl',hw1,hw2,rfl⟩;refine gd bG aA ?_;have hge:=rU h.a0 w.pos w.p;have hle:fY w.aG w.pos w.p≤9223372036854775807:=by have:=h.a1;unfold fY;split;omega;split<;>omega
 rcases aBh (iT w.aG w.pos w.p) with hc|hc
 ·rw[if_pos hc,hc];repeat first|refine aE ?_|intro
  exact aR rfl aF aA (⟨⟨w.N,w.R,w.m,w.rc,w.bF,w.kE,w.pos,w.P,w.p,w.pc,w.cG,true,fY w.aG w.pos w.p,wr',w.A,w.k,w.c,l'⟩,rfl,⟨hwm,hwp,hwk.trans hl'.symm,hn0,hn1,hlen,hge,hle,by have:=h.w0;dsimp only;omega,hfit,hrecs,hdur,h.wide⟩,by unfold WL.s;dsimp only;rw[hfl'],hw2,by dsimp only;omega,rfl⟩)
 ·rw[if_neg (by rw[hc];exact aAl),hc];have hq:=zV hc;rw[hq,aAj o_] at hfl';have hpl:IntKind.i64.wrap ((w.pos:Int)+(w.p:Int))=((w.pos+w.p:Nat):Int):=by rw[aAq _ o_];omega
  repeat first|refine aE ?_|intro
  refine C.bL 12 (l_ [0,1,2,3,4,5,6,7,8,9,10,11] (g_ 12 .nil)) _ q_ q_ aB.refl ?_;repeat first|refine aE ?_|intro
  refine gP (aB.oR aU none) ?_;exact aR rfl aF aA (⟨⟨w.N,w.R,w.m,w.rc,w.bF,w.m,w.pos+w.p,none,0,0,[],false,fY w.aG w.pos w.p,wr',w.A,w.k,w.c,l'⟩,rfl,⟨hwm,rfl,hwk.trans hl'.symm,hn0,hn1,hlen,hge,hle,by have:=h.w0;dsimp only;omega,by show w.pos+w.p+0≤_;omega,hrecs,aAf _,h.wide⟩,by unfold WL.s;dsimp only;rw[hfl'],hw2,by dsimp only;omega,rfl⟩)
end
end Go.Proofs.YtmilalkjbojciaaGreat.Sep
