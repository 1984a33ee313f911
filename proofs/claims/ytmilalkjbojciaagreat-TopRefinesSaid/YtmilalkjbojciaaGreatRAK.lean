/- Part AK: what it needs. No condition. -/
import Derived.Test.YtmilalkjbojciaaGreatRAA
import Derived.Test.YtmilalkjbojciaaGreatRAE
import Derived.Test.YtmilalkjbojciaaGreatRAB
import Derived.Test.YtmilalkjbojciaaGreatRAJ
import Derived.Test.YtmilalkjbojciaaGreatRAH
set_option maxRecDepth 100000
set_option maxHeartbeats 8000000
open Go.Proofs.Tryz
namespace Go.Proofs.YtmilalkjbojciaaGreat.Sep
open Go.RowKit Reg
open Mem hiding Rd
abbrev AR:={ l:List UInt8 // l.length=32 }
def sH:Ty AR where
 val s:=.agg (s.1.map λb=>Value.int .u8 (b.toNat:Int)).toArray
 size:=32
 bytes:=32
 tid:=295
 zero:=.agg (List.replicate 32 (Value.int .u8 0)).toArray
 hlen s:=by simp[Value.cells,s.2]
 lJ s u h:=by
  simp only[Value.cells,aFn] at h;obtain⟨b,_,rfl⟩:=h;rfl
 gL:=sD
 hzero:=by simp[Value.cells]
 fW:=q_
 nR:=.inl ⟨q_,λ_=>⟨_,rfl⟩⟩
instance Wb:kQ 295 AR sH:=⟨rfl⟩
instance XF:lL sH 32:=⟨rfl⟩
def Ek:AR:=⟨List.replicate 32 0,by simp⟩
instance Wl:uU sH Ek:=⟨rfl⟩
theorem Kt:ZO sH aU 32 (·.1):=λs=>⟨by
 show(s.1.map λb=>Value.int .u8 (b.toNat:Int))=s.1.flatMap λb=>[Value.int .u8 (b.toNat:Int)]
 induction s.1 with
 |nil=>rfl
 |cons b l ih=>simp[ih],s.2⟩
theorem QB:Rec prog 250 [.bool false,.bool false,.int .i64 0,.int .i64 0,.slice none 0 0] [(0,1),(1,1),(2,1),(3,1),(4,1)]:=⟨q_,q_⟩
instance VO:cL 250 [.bool false,.bool false,.int .i64 0,.int .i64 0,.slice none 0 0] [(0,1),(1,1),(2,1),(3,1),(4,1)]:=⟨QB⟩
abbrev Cy(g:Nat)(made dead:Bool)(aG wr:Int)(A:Option Addr)(n c:Nat):aL:=aJ g 250 [.bool made,.bool dead,.int .i64 aG,.int .i64 wr,.slice A n c]
def flat(l:List AR):List UInt8:=l.flatMap (·.1)
theorem eI(l:List AR):(flat l).length=32*l.length:=by
 induction l with
 |nil=>rfl
 |cons s l ih=>simp only[flat,aDy,aAe,s.2,aAs] at ih⊢;omega
theorem mS(a b:List AR):flat (a++b)=flat a++flat b:=aDz
theorem Be{l:List AR}{i:Nat}(h:i<l.length):flat (l.take (i+1))=flat (l.take i)++l[i].1:=by
 rw[aAn h,mS];simp[flat]
theorem Pm(E:Env)(n:Int)(k:Nat)(hk:(k:Int)=if n<0 then 0 else if 256<n then 256 else n) :
  aK prog E 106 #[.int .i64 n] [] λe H'=>∃g g2,e=.returned (.pointer (some ⟨g,0,none⟩))∧H'=[Cy g true false (-1) 0 (some ⟨g2,0,none⟩) k k,own sH (some ⟨g2,0,none⟩) k k (List.replicate k Ek)]:=by
 have hk2:k≤256:=by split at hk<;>(try split at hk)<;>omega
 refine t_ func106 ntmps106 ?_;repeat first|refine aE ?_|intro
 refine bW (λM=>Dz M n 0 256) ?_;rintro e H' ⟨rfl,rfl⟩;rw[show dF n 0 256=(k:Int) from hk.symm];repeat first|refine aE ?_|intro
 exact jQ ⟨_,_,rfl,rfl⟩
section
variable (E:Env) (g:Nat) (made dead:Bool) (aG wr:Int) (A:Option Addr) (n c:Nat) (l:List AR)
abbrev zK:List aL:=[Cy g made dead aG wr A n c,own sH A n c l]
theorem Jt(i:Int)(b:Bool)(hb:b=(!dead&&decide (0≤i)&&decide (i<n)))(hn:n≤256):aK prog E 286 #[.pointer (some ⟨g,0,none⟩),.int .i64 i] [Cy g made dead aG wr A n c] λe H'=>e=.returned (.bool b)∧H'=[Cy g made dead aG wr A n c]:=by
 subst hb;have hm:n≤maxLen:=by unfold maxLen;omega
 refine t_ func286 ntmps286 ?_;cases dead
 ·by_cases h1:0≤i
  ·repeat first|refine aE ?_|intro
   exact aR rfl aF aA (⟨by simp[h1],rfl⟩)
  ·repeat first|refine aE ?_|intro
   exact aR rfl aF aA (⟨by simp[h1],rfl⟩)
 ·repeat first|refine aE ?_|intro
  exact B7
def wk(aG:Int):Nat:=if 0≤aG∧aG<32 then aG.toNat else 32
def jD(aG:Int):Bool:=decide (0≤aG∧aG<32)
def gX(aG:Int):Int:=if 0≤aG∧aG<32 then -1 else if aG = -1 then -1 else aG - 32
theorem pL(aG:Int):wk aG≤32:=by unfold wk;split<;>omega
def front(k:Nat)(b:List UInt8)(hb:b.length=32)(hk:k≤32)(s:AR):AR:=⟨b.take k++s.1.drop k,by simp[s.2,hb];omega⟩
theorem DT(B:Option Addr)(d:Nat)(b:List UInt8)(i:Nat)(hb:b.length=32)(hr:Rd E aU B 32 d b)(hn:n≤256)(hi:i<l.length)(ha : -1≤aG)(ha2:aG≤9223372036854775807)(hw:0≤wr)(hw2:wr≤100000000000000) :
  aK prog E 233 #[.pointer (some ⟨g,0,none⟩),.int .i64 i,.slice B 32 d] (zK g made false aG wr A n c l) λe H'=>e=.returned (.bool (!jD aG)) ∧
   H'=zK g made (jD aG) (gX aG) (wr+wk aG) A n c (l.set i (front (wk aG) b hb (pL _) l[i])):=by
 refine aK.fact (p:=n=l.length) (λw hw=>(kV.own (H:=zK g made false aG wr A n c l) aS w hw).1) λhnl=>?_;have hm:=hr.len;have hcap:=hr.cap;have hli:l[i]?=some l[i]:=aAa hi;have hfr:(front (wk aG) b hb (pL _) l[i]).1=b.take (wk aG)++l[i].1.drop (wk aG):=rfl;have hcut:=hr.upto (k:=wk aG) (m:=d) (pL _) (aBw (pL _) hcap.1) (aAf _);have harr:=Kt;have hwle:=pL aG;generalize front (wk aG) b hb (pL _) l[i]=s at *;refine t_ func233 ntmps233 ?_;repeat first|refine aE ?_|intro
 refine bK (λM=>Jt M g made false aG wr A n c i true (by simp;omega) hn) ?_;repeat ((fail_if_success (refine C.seq (x:=Code.region 4 _ _) ?_));first|refine Cx ?_|refine He ?_|intro _|refine Dr.two ?_ ?_)
 refine C.BI (X:=Unit) (λ_=>[(0,.pointer (some ⟨g,0,none⟩)),(1,.int .i64 i),(2,.slice B 32 d),(7,.int .i64 (wk aG:Nat))]) (λ_=>zK g made (jD aG) (gX aG) wr A n c l) (λ_=>True) ?_ ?_
 ·unfold wk jD gX;by_cases h1:aG = -1
  ·rw[if_neg o_,if_neg o_,if_pos h1,decide_eq_false o_];subst h1;repeat first|refine aE ?_|intro
   exact⟨(),aD,aB.refl,trivial⟩
  ·by_cases h2:aG<32
   ·rw[if_pos ⟨by omega,h2⟩,if_pos ⟨by omega,h2⟩,decide_eq_true ⟨by omega,h2⟩];obtain⟨k,rfl⟩:=aCf (show 0≤aG by omega);repeat first|refine aE ?_|intro
    exact⟨(),aD,aB.refl,trivial⟩
   ·rw[if_neg o_,if_neg o_,if_neg h1,decide_eq_false o_];repeat first|refine aE ?_|intro
    exact⟨(),aD,aB.refl,trivial⟩
 rintro - G -;generalize wk aG=k at *;repeat first|refine aE ?_|intro
 refine C.bL 10 (l_ [0,1,2,3,4,5,6,7,8,9] (g_ 10 .nil)) _ q_ q_ aB.refl ?_;repeat first|refine aE ?_|intro
 exact B7
end
theorem MZ(E:Env)(A:Option Addr)(n c:Nat)(l:List _)(hr:Rd E aU A n c l)(hl:n≤140737488355300):aK prog E 156 #[.slice A n c] [] λe H'=>∃A' c',e=.returned (.slice A' n c')∧n≤c'∧c'≤maxLen∧H'=[own aU A' n c' l]:=by
 refine t_ func156 ntmps156 ?_;cases A with
 |none =>
  obtain⟨rfl,rfl⟩:=hr.none;repeat first|refine aE ?_|intro
  exact aR rfl aF (aB.nil aU) ⟨_,_,rfl,aAf _,aAh _,rfl⟩
 |some a =>
  repeat first|refine aE ?_|intro
  exact aR rfl aF aA (⟨_,_,rfl,by assumption,by assumption,rfl⟩)
theorem Lz(E:Env)(A:Option Addr)(n c:Nat)(l:List _)(hr:Rd E sH A n c l)(hl:n≤1000000):aK prog E 203 #[.slice A n c] [] λe H'=>∃A' c',e=.returned (.slice A' n c')∧n≤c'∧c'≤maxLen∧H'=[own sH A' n c' l]:=by
 refine t_ func203 ntmps203 ?_;cases A with
 |none =>
  obtain⟨rfl,rfl⟩:=hr.none;repeat first|refine aE ?_|intro
  exact aR rfl aF (aB.nil sH) ⟨_,_,rfl,aAf _,aAh _,rfl⟩
 |some a =>
  repeat first|refine aE ?_|intro
  exact aR rfl aF aA (⟨_,_,rfl,by assumption,by assumption,rfl⟩)
section
variable (E:Env) (g:Nat) (made dead:Bool) (aG wr:Int) (A:Option Addr) (n c:Nat) (l:List AR)
theorem r7(i:Nat)(hn:n≤256)(hi:i<l.length)(hnl:n=l.length) :
  aK prog E 234 #[.pointer (some ⟨g,0,none⟩),.int .i64 i] (zK g made false aG wr A n c l) λe H'=>∃B d,e=.returned (.tuple #[.slice B 32 d,.bool true])∧32≤d∧d≤maxLen∧H'=own aU B 32 d l[i].1::zK g made false aG wr A n c l:=by
 have hli:l[i]?=some l[i]:=aAa hi;have harr:=Kt;have hm:32≤maxLen:=by unfold maxLen;omega
 generalize l[i]=s at *;refine t_ func234 ntmps234 ?_;repeat first|refine aE ?_|intro
 refine bK (λM=>Jt M g made false aG wr A n c i true (by simp;omega) hn) ?_;repeat first|refine aE ?_|intro
 refine cl sD sK aC (λM hE=>MZ M _ 32 32 s.1 (Rd.inner harr hm (Sub.own hE aS) hli rfl) o_) ?_;rintro e H' ⟨B,d,rfl,h1,h2,rfl⟩;repeat first|refine aE ?_|intro
 exact Cz ⟨_,_,rfl,h1,h2,rfl⟩
theorem SX(k:Int):aK prog E 193 #[.pointer (some ⟨g,0,none⟩),.int .i64 k] [Cy g true dead aG wr A n c] λe H'=>e=.returned (.tuple #[])∧H'=[Cy g true dead (if dead then aG else max k (-1)) wr A n c]:=by
 refine t_ func193 ntmps193 ?_;cases dead
 ·rw[if_neg (by simp)];repeat first|refine aE ?_|intro
  exact e3_
 ·rw[if_pos rfl];repeat first|refine aE ?_|intro
  exact e3_
theorem Ic:aK prog E 141 #[.pointer (some ⟨g,0,none⟩)] [Cy g true dead aG wr A n c] λe H'=>e=.returned (.tuple #[])∧H'=[Cy g true false (-1) wr A n c]:=by
 refine t_ func141 ntmps141 ?_;repeat first|refine aE ?_|intro
 exact e3_
theorem SG(hn:n≤256):aK prog E 221 #[.pointer (some ⟨g,0,none⟩)] [Cy g made dead aG wr A n c] λe H'=>e=.returned (.int .i64 n)∧H'=[Cy g made dead aG wr A n c]:=by
 have hm:n≤maxLen:=by unfold maxLen;omega
 refine t_ func221 ntmps221 ?_;repeat first|refine aE ?_|intro
 exact B7
theorem CL:aK prog E 175 #[.pointer (some ⟨g,0,none⟩)] [Cy g made dead aG wr A n c] λe H'=>e=.returned (.bool dead)∧H'=[Cy g made dead aG wr A n c]:=by
 refine t_ func175 ntmps175 ?_;repeat first|refine aE ?_|intro
 exact B7
theorem Bi(hn:n≤256):aK prog E 140 #[.pointer (some ⟨g,0,none⟩)] (zK g true dead aG wr A n c l) λe H'=>∃g' A' c',e=.returned (.pointer (some ⟨g',0,none⟩))∧H'=zK g' true dead aG wr A' n c' l++zK g true dead aG wr A n c l:=by
 refine t_ func140 ntmps140 ?_;repeat first|refine aE ?_|intro
 refine dX (λM h1=>Lz M A n c l h1 (by omega)) ?_;rintro e H' ⟨A',c',rfl,h1,h2,rfl⟩;repeat first|refine aE ?_|intro
 exact jQ ⟨_,_,_,rfl,rfl⟩
end
section
variable {E:Env} {H:List aL} {α:Type} {T:Ty α} {A:Option Addr} {n c:Nat} {l:List α} {N:Nat} {F:Nat→Value} {o:Oper} {H':List aL}
def lay(l:List α)(k:Nat)(l2:List α):List α:=l.take k++l2++l.drop (k+l2.length)
theorem JY{k:Nat}{l2:List α}(h:k+l2.length≤l.length):(lay l k l2).length=l.length:=by
 unfold lay;simp only[aAe,aAg,aBd];omega
theorem KZ{F1:Nat→Prop}{u:World}{g k:Nat}{l2:List α}{cur:Array Value}(h0:(own T (some ⟨g,0,none⟩) n c l).holds F1 u)(hh:u.heap[g]?=some (.cells cur T.tid (0,0)))(hk:k+l2.length≤n)(hn0:0<n) :
  k*T.size+(T.bT l2).length≤cur.size∧F1 g∧(own T (some ⟨g,0,none⟩) n c (lay l k l2)).holds F1 (u.setRow g (cur.toList.take (k*T.size+0)++T.bT l2++cur.toList.drop (k*T.size+0+(T.bT l2).length)).toArray):=by
 have hn:=h0.1;obtain⟨m1,_,_,cur',m2,m3,m4,m5,m6⟩:=rP (g:=g) (q:=0) h0 rfl hn0;rw[hh] at m2;injection m2 with m2;injection m2 with m2 _ _
 subst m2;have hFF:∀b,F1 b↔b=g:=by
  obtain⟨_,⟨h6,_⟩|⟨g',_,h6,h7,_⟩⟩:=h0
  ·omega
  ·injection h6 with h6;injection h6 with h6;subst h6;exact h7
 have hel:(T.bT l2).length=l2.length*T.size:=T.bM l2;have hlen:(k+l2.length)*T.size≤n*T.size:=aBa _ hk;have hl2:(k+l2.length)*T.size=k*T.size+l2.length*T.size:=aDb _ _ _;have hnc:n*T.size≤c*T.size:=aBa _ m3;refine⟨by omega,m1,by rw[JY o_];exact hn,.inr ⟨g,_,rfl,hFF,setRow_heap u g _ _ _ _ hh,m3,m4,?_,?_⟩⟩
 ·simp;omega
 ·unfold lay;rw[T.iU,T.iU,←T.nX,←T.gD,←m6,aDb,←hel,aFb];have hc:cur.toList.length=c*T.size:=by rw[aDs,m5]
  simp only;rw[aEt,aEt,aEn,aEn,aFe o_,aBr o_,aAj (l:=T.bT l2) (by rw[aAg];omega),List.drop_take];congr 2;rw[aAe,aAg,aBr o_]
theorem GY{g k:Nat}(hkc:k<c):(if c=k then(some (⟨g,0,none⟩:Addr)) else(some (⟨g,0,none⟩:Addr)).map (·.add (k*T.size)))=some ⟨g,k*T.size,none⟩:=by
 rw[if_neg o_];show some ((⟨g,0,none⟩:Addr).add _)=_;rw[fB,aCa]
theorem S.QQ{x d:Operand}{t t2:TypeId}{k m nx cx:Nat}{X:Option Addr}{l2:List α}(ho:o.op=.call { callee:=.builtin .copy,args:=#[d,x],argTypes:=#[t,t2] })
  (hd:ev F d=.slice (if c=k then A else A.map (·.add (k*T.size))) m (c - k)) (hx:ev F x=.slice X nx cx) (hrd:kV E H T X nx cx l2) (hr:dT (own T A n c l) [own T A n c (lay l k l2)] H H')
  (ht:prog.underlying t=some (.slice T.tid)) (hkm:k+m≤n) (h0:0<m) (hnx:nx≤m) (hm:m≤maxLen):gK prog N E F H o λr H1=>r=.int .i64 (nx:Int)∧H1=H':=by
 intro a u ha hu Kw Q' hK;obtain⟨R,hhas,F0,h1⟩:=hu.xO hr;obtain⟨g,hA0⟩:∃g,A=some ⟨g,0,none⟩:=by
  obtain⟨_,⟨rfl,h2,_⟩|⟨g,cur,rfl,_⟩⟩:=h1
  ·omega
  ·exact⟨g,rfl⟩
 subst hA0;obtain⟨hF,_,_,cur,hh,h2,h3,h4,h5⟩:=rP (g:=g) (q:=0) h1 rfl o_;rw[GY o_] at hd;obtain⟨k0,_,_,_⟩:=hrd u hu;have hfc:=uA hrd hu;have hp:∀F1,(own T (some ⟨g,0,none⟩) n c l).holds F1 u→_:=λF1 h=>KZ (k:=k) (l2:=l2) h hh o_ o_;have hst:=run_storeCells_at prog g (k*T.size) T.tid (T.bT l2) 0 cur u hh (by have:=(hp F0 h1).1;omega) (T.kS l2);obtain⟨tu,hi,_,hsz,_⟩:=T.jA;have hmin:Nat.min nx m=nx:=aBr hnx;unfold Oper.wp;rw[ha.eval];have hw:IntKind.i64.wrap (nx:Int)=nx:=aAq _ (by unfold maxLen at hm;omega);have hrun:(execOp (ev F) o).run prog u=.ok (.value (.int .i64 (nx:Int))) (u.setRow g (cur.toList.take (k*T.size+0)++T.bT l2++cur.toList.drop (k*T.size+0+(T.bT l2).length)).toArray):=by
  simp[execOp,ho,resolve,invoke,builtin,hd,hx,Builtin.copy_,run_underlying ht,Builtin.lenOf,hmin,sizeOf,typeInfo,hi,hsz,hfc,goInt] at hst⊢;simp[hst]
 rw[hrun];exact hK _ _ _ ⟨rfl,rfl⟩ (St.setRow hu hr g _ λF1 k1=>⟨(hp F1 k1).2.1,(hp F1 k1).2.2⟩)
theorem S.M1{x:Operand}{t:TypeId}{z:α}{k m:Nat}(ho:o.op=.call { callee:=.builtin .clear,args:=#[x],argTypes:=#[t] })(hx:ev F x=.slice (if c=k then A else A.map (·.add (k*T.size))) m (c - k))
  (ht:prog.underlying t=some (.slice T.tid)) (hz:T.val z=T.zero) (hkm:k+m≤n) (h0:0<m) (hr:dT (own T A n c l) [own T A n c (lay l k (List.replicate m z))] H H'):gK prog N E F H o λr H1=>r=.tuple #[]∧H1=H':=by
 intro a u ha hu Kw Q' hK;obtain⟨R,hhas,F0,h1⟩:=hu.xO hr;obtain⟨g,hA0⟩:∃g,A=some ⟨g,0,none⟩:=by
  obtain⟨_,⟨rfl,h2,_⟩|⟨g,cur,rfl,_⟩⟩:=h1
  ·omega
  ·exact⟨g,rfl⟩
 subst hA0;obtain⟨hF,_,_,cur,hh,h2,h3,h4,h5⟩:=rP (g:=g) (q:=0) h1 rfl o_;rw[GY o_] at hx;obtain⟨ti,hi,hzz,hsz,hbt⟩:=T.jA;have hzc:Builtin.zeroCells T.zero.cells m=madeCells T.zero.cells (m*T.size):=by
  have:=T.hzero;simp[Builtin.zeroCells,madeCells,this]
 have hzl:(Builtin.zeroCells T.zero.cells m).toList=T.bT (List.replicate m z):=by rw[hzc,nN T z hz]
 have hp:∀F1,(own T (some ⟨g,0,none⟩) n c l).holds F1 u→_:=λF1 h=>KZ (k:=k) (l2:=List.replicate m z) h hh (by rw[aAz];omega) o_;have hst:=run_storeCells_at prog g (k*T.size) T.tid (T.bT (List.replicate m z)) 0 cur u hh (by have:=(hp F0 h1).1;omega) (T.kS _);unfold Oper.wp;rw[ha.eval];have hx2:(execOp (ev F) o).run prog u=.ok (.value (.tuple #[])) (u.setRow g (cur.toList.take (k*T.size+0)++T.bT (List.replicate m z)++cur.toList.drop (k*T.size+0+(T.bT (List.replicate m z)).length)).toArray):=by
  obtain⟨m,rfl⟩:∃k',m=k'+1:=⟨m - 1,by omega⟩
  unfold execOp;simp only[ho,resolve,invoke,builtin,aAy,aCc,aAr,aEb,aCi,aDo,hx];simp[Builtin.clear_,run_underlying ht,zeroValue,typeInfo,hi,hzz,hzl] at hst⊢;simp[hst]
 rw[hx2];exact hK _ _ _ ⟨rfl,rfl⟩ (St.setRow hu hr g _ λF1 k1=>⟨(hp F1 k1).2.1,(hp F1 k1).2.2⟩)
theorem V.UJ{x:Operand}{t e:TypeId}{B:Option Addr}{d:Nat}{u:World}(ho:o.op=.call { callee:=.builtin .clear,args:=#[x],argTypes:=#[t] })(hx:ev F x=.slice B 0 d)(ht:prog.underlying t=some (.slice e)):(execOp (ev F) o).run prog u=.ok (.value (.tuple #[])) u:=by
 unfold execOp;simp only[ho,resolve,invoke,builtin,aAy,aCc,aAr,aEb,aCi,aDo,hx];cases B<;>simp[Builtin.clear_,run_underlying ht]
end
end Go.Proofs.YtmilalkjbojciaaGreat.Sep
namespace Go.Proofs.YtmilalkjbojciaaGreat.Sep
open Go.RowKit Reg Oct
open Mem hiding Rd
def tY(b:List UInt8):bH:=⟨bX b 0 1,(eY ((b.drop 1).take 13)).getD zW,bX b 14 1,bX b 15 4,decide (Go.bits .and .i64 (bX b 24 1:Nat) 1≠0),decide (Go.bits .and .i64 (bX b 24 1:Nat) 2≠0),bX b 19 1,bX b 20 4⟩
def EY(b:List UInt8):Option bH:=if b.length=27∧(tY b).may=true∧(tY b).put=b then some (tY b) else none
theorem oC(E:Env)(gr g:Nat)(s s':Bool×List UInt8)(w:Nat)(v:Int)(hs:jV s w=s')(hv:rV (vl s w)=v)(A:Option Addr)(n c:Nat)(W:Int)(hW:W=w)(hw:1≤w∧w≤8)(hr:Rd E aU A n c s.2) :
  aK prog E 380 #[.int .i64 W,.pointer (some ⟨gr,0,none⟩)] [aJ gr 276 [.pointer (some ⟨g,0,none⟩)],pC g true s.1 A n c] (Sd gr g A n c s.2 s' (.int .i64 v)):=by
 subst hs hv;have hwid:wid W=(w:Int):=by unfold wid;rw[if_neg o_];exact hW
 have hlt:=jR s w;have hlt2:vl s w<18446744073709551616:=aDe hlt (aBw (aDx o_ hw.2) sD);have hc:=qZ hlt2;refine t_ func380 ntmps380 ?_;repeat first|refine aE ?_|intro
 refine dX (λM=>iG M g s.1 A n c s.2 W) ?_;obtain⟨o,ho⟩:∃o,nx s.1 s.2 (w:Int)=(o,jV s w):=⟨_,rfl⟩
 have htk:=Gl s w;rw[ho] at htk;rw[hwid,ho];rintro e H' ⟨A',n',c',rfl,hal,rfl⟩;dsimp only at htk hal⊢;rw[htk];repeat first|refine aE ?_|intro
 exact jQ ⟨_,_,_,rfl,hal,rfl⟩
theorem Dd(E:Env)(A:Option Addr)(n c:Nat)(b:List UInt8)(hr:Rd E aU A n c b)(hl:n=27) :
  aK prog E 367 #[.slice A n c] [] λe H'=>e=.returned (.tuple #[.agg ((EY b).getD El).cs.toArray,.bool (EY b).isSome])∧H'=[]:=by
 have hn:=hr.len;have hcap:=hr.cap;have o1:1≤1∧1≤8:=o_;have o4:1≤4∧4≤8:=o_;have t0:=iL (l:=b) (i:=0) (w:=1) o_;rw[aCh] at t0;have q0:rV (vl (false,b) 1)=(bX b 0 1:Nat):=by rw[t0.2.1];exact cN (aCl (eM b 0 1) sD)
 have t0':jV (false,b) 1=(false,b.drop 1):=t0.1;have t14:=iL (l:=b) (i:=14) (w:=1) o_;have q14:rV (vl (false,b.drop 14) 1)=(bX b 14 1:Nat):=by rw[t14.2.1];exact cN (aCl (eM b 14 1) sD)
 have t15:=iL (l:=b) (i:=15) (w:=4) o_;have q15:rV (vl (false,b.drop 15) 4)=(bX b 15 4:Nat):=by rw[t15.2.1];exact cN (aCl (eM b 15 4) sD)
 have t19:=iL (l:=b) (i:=19) (w:=1) o_;have q19:rV (vl (false,b.drop 19) 1)=(bX b 19 1:Nat):=by rw[t19.2.1];exact cN (aCl (eM b 19 1) sD)
 have t20:=iL (l:=b) (i:=20) (w:=4) o_;have q20:rV (vl (false,b.drop 20) 4)=(bX b 20 4:Nat):=by rw[t20.2.1];exact cN (aCl (eM b 20 4) sD)
 have t24:=iL (l:=b) (i:=24) (w:=1) o_;have q24:rV (vl (false,b.drop 24) 1)=(bX b 24 1:Nat):=by rw[t24.2.1];exact cN (aCl (eM b 24 1) sD)
 have hnx:nx false (b.drop 1) 13=(some ((b.drop 1).take 13),false,b.drop 14):=by
  have:=Ai (l:=b.drop 1) (k:=13) (by simp;omega);rw[aBt] at this;exact this
 have hl13:((b.drop 1).take 13).length=13:=by simp;omega
 have hlen:(b.drop 1).length≤140737488355328:=by simp;omega
 refine t_ func367 ntmps367 ?_;repeat first|refine aE ?_|intro
 refine dX (λM h1=>lD M A n c b h1 (by omega)) ?_;rintro e H' ⟨g,A0,c0,rfl,h5,h6,rfl⟩;refine gk bG ?_;unfold Bs;repeat first|refine aE ?_|intro
 rename_i gres gr;refine L.step sD (S.cW rfl eS rfl rfl func380 q_ rfl aC (λM hE=>oC M gr g (false,b) (false,b.drop 1) 1 _ t0' q0 A0 n c0 1 rfl o1 dB) ?_);rintro e H' ⟨A1,n1,c1,rfl,hal1,rfl⟩;dsimp only at hal1⊢;repeat first|refine aE ?_|intro
 refine cl sD sK aC (λM hE=>kR M g false A1 n1 c1 (b.drop 1) 13 (hal1 _ dB) hlen) ?_;rw[hnx];rintro e H' ⟨A2,n2,c2,B,d,rfl,hal2,hmd,hd3,rfl⟩;dsimp only at hal2;simp only[aBe,aEf] at hmd⊢;rw[hl13] at hmd⊢;repeat first|refine aE ?_|intro
 have hER:tY b=⟨bX b 0 1,(eY ((b.drop 1).take 13)).getD zW,bX b 14 1,bX b 15 4,decide (Go.bits .and .i64 (bX b 24 1:Nat) 1≠0),decide (Go.bits .and .i64 (bX b 24 1:Nat) 2≠0),bX b 19 1,bX b 20 4⟩:=rfl;refine cl sD sK aC (λM hE=>HO M B 13 d _ _ rfl dB rfl) ?_;generalize (eY ((b.drop 1).take 13)).getD zW=y at *;rintro e H' ⟨rfl,rfl⟩;repeat first|refine aE ?_|intro
 refine L.step sD (S.cW rfl eS rfl rfl func380 q_ rfl aC (λM hE=>oC M gr g (false,b.drop 14) (false,b.drop 15) 1 _ t14.1 q14 A2 n2 c2 1 rfl o1 (hal2 _ (hal1 _ dB))) ?_);rintro e H' ⟨A3,n3,c3,rfl,hal3,rfl⟩;dsimp only at hal3⊢;repeat first|refine aE ?_|intro
 refine L.step sD (S.cW rfl eS rfl rfl func380 q_ rfl aC (λM hE=>oC M gr g (false,b.drop 15) (false,b.drop 19) 4 _ t15.1 q15 A3 n3 c3 4 rfl o4 (hal3 _ (hal2 _ (hal1 _ dB)))) ?_);rintro e H' ⟨A4,n4,c4,rfl,hal4,rfl⟩;dsimp only at hal4⊢;repeat first|refine aE ?_|intro
 refine L.step sD (S.cW rfl eS rfl rfl func380 q_ rfl aC (λM hE=>oC M gr g (false,b.drop 19) (false,b.drop 20) 1 _ t19.1 q19 A4 n4 c4 1 rfl o1 (hal4 _ (hal3 _ (hal2 _ (hal1 _ dB))))) ?_);rintro e H' ⟨A5,n5,c5,rfl,hal5,rfl⟩;dsimp only at hal5⊢;repeat first|refine aE ?_|intro
 refine L.step sD (S.cW rfl eS rfl rfl func380 q_ rfl aC (λM hE=>oC M gr g (false,b.drop 20) (false,b.drop 24) 4 _ t20.1 q20 A5 n5 c5 4 rfl o4 (hal5 _ (hal4 _ (hal3 _ (hal2 _ (hal1 _ dB)))))) ?_);rintro e H' ⟨A6,n6,c6,rfl,hal6,rfl⟩;dsimp only at hal6⊢;repeat first|refine aE ?_|intro
 refine L.step sD (S.cW rfl eS rfl rfl func380 q_ rfl aC (λM hE=>oC M gr g (false,b.drop 24) (false,b.drop 25) 1 _ t24.1 q24 A6 n6 c6 1 rfl o1 (hal6 _ (hal5 _ (hal4 _ (hal3 _ (hal2 _ (hal1 _ dB))))))) ?_);rintro e H' ⟨A7,n7,c7,rfl,hal7,rfl⟩;dsimp only at hal7⊢;repeat first|refine aE ?_|intro
 have heg:EY b=if b.length=27∧(tY b).may=true∧(tY b).put=b then some (tY b) else none:=rfl
 refine rA (l_ [0,3,4] (g_ 1 (l_ [2,5] .nil))) ?_;repeat first|refine aE ?_|intro
 cases hm:(tY b).may
 ·rw[if_neg (λh=>by rw[hm] at h;cases h.2.1)] at heg;rw[heg];have hd:decide (([]:List UInt8)≠b)=true:=decide_eq_true (λh=>by rw[←h] at hn;simp at hn;omega);have hpn:=λM=>Jx M (tY b) hm;rw[hER] at hpn;refine eJ hpn ?_;repeat first|refine aE ?_|intro
  exact Qv
 ·have hpn:=λM=>J2 M (tY b) hm;generalize hpp:(tY b).put=p at *;rw[hER] at hpn;refine iO hpn ?_;rintro e H' ⟨A9,c9,rfl,rfl⟩;refine gd bG aA ?_;refine Dr.more (Hk':=_) aA aB.refl ?_;by_cases hp:p=b
  ·rw[if_pos ⟨by omega,hm,hp⟩] at heg;rw[heg];have hd:decide (p≠b)=false:=by simp[hp]
   simp only[aBe,aEf];rw[hER];repeat first|refine aE ?_|intro
   exact Qv
  ·rw[if_neg (λh=>hp h.2.2)] at heg;rw[heg];have hd:decide (p≠b)=true:=by simp[hp]
   repeat first|refine aE ?_|intro
   exact Qv
theorem Me:Lu prog 322 [.int .i64 0,.int .i64 0,.int .i64 0,.int .i64 0,.int .i64 0,.int .i64 0,.int .i64 0,.int .i64 0,.int .i64 0,.int .i64 0,.int .i64 0,.int .i64 0,.int .i64 0,.int .i64 0,.int .i64 0,.int .i64 0] [(0,1),(1,1),(2,1),(3,1),(4,1),(5,1),(6,1),(7,1),(8,1),(9,1),(10,1),(11,1),(12,1),(13,1),(14,1),(15,1)] 1:=⟨q_,q_,rfl⟩
instance TR:Bj 322 [.int .i64 0,.int .i64 0,.int .i64 0,.int .i64 0,.int .i64 0,.int .i64 0,.int .i64 0,.int .i64 0,.int .i64 0,.int .i64 0,.int .i64 0,.int .i64 0,.int .i64 0,.int .i64 0,.int .i64 0,.int .i64 0] [(0,1),(1,1),(2,1),(3,1),(4,1),(5,1),(6,1),(7,1),(8,1),(9,1),(10,1),(11,1),(12,1),(13,1),(14,1),(15,1)] 1:=⟨Me⟩
theorem Od:Lu prog 184 [.int .i64 0,.int .i64 0,.int .i64 0,.int .i64 0,.int .i64 0,.int .i64 0] [(0,1),(1,1),(2,1),(3,1),(4,1),(5,1)] 1:=⟨q_,q_,rfl⟩
instance V3:Bj 184 [.int .i64 0,.int .i64 0,.int .i64 0,.int .i64 0,.int .i64 0,.int .i64 0] [(0,1),(1,1),(2,1),(3,1),(4,1),(5,1)] 1:=⟨Od⟩
abbrev Zc:List Int:=[0,9,1,3,4,1,4,2,2,2,6,4,1,1,5,1]
def vN(k:Nat):Int:=Zc.getD k 0
theorem wU(E:Env)(k:Nat)(h:k<16):aK prog E 169 #[.int .i64 k] [] λe H'=>e=.returned (.int .i64 (vN k))∧H'=[]:=by
 have g:([.int .i64 0,.int .i64 9,.int .i64 1,.int .i64 3,.int .i64 4,.int .i64 1,.int .i64 4,.int .i64 2,.int .i64 2,.int .i64 2,.int .i64 6,.int .i64 4,.int .i64 1,.int .i64 1,.int .i64 5,.int .i64 1]:List Value)[k]?=some (.int .i64 (vN k)):=by
  rcases(show k=0∨k=1∨k=2∨k=3∨k=4∨k=5∨k=6∨k=7∨k=8∨k=9∨k=10∨k=11∨k=12∨k=13∨k=14∨k=15 by omega) with rfl|rfl|rfl|rfl|rfl|rfl|rfl|rfl|rfl|rfl|rfl|rfl|rfl|rfl|rfl|rfl<;>rfl
 refine t_ func169 ntmps169 ?_;repeat first|refine aE ?_|intro
 exact B7
theorem VY(k:Nat)(h1:1≤k)(h:k≤15):Go.bits .and .i64 (vN k) 1=(if Mp k then 1 else 0)∧Go.bits .and .i64 (vN k) 2=(if Pv k then 2 else 0)∧Go.bits .and .i64 (vN k) 4=(if Qg k then 4 else 0)∧Go.bits .and .i64 (vN k) 8=(if Ux k then 8 else 0):=by
 rcases(show k=1∨k=2∨k=3∨k=4∨k=5∨k=6∨k=7∨k=8∨k=9∨k=10∨k=11∨k=12∨k=13∨k=14∨k=15 by omega) with rfl|rfl|rfl|rfl|rfl|rfl|rfl|rfl|rfl|rfl|rfl|rfl|rfl|rfl|rfl<;>exact⟨by decide,by decide,by decide,by decide⟩
theorem Og(E:Env)(x:cH)(h1:1≤x.kind)(h:x.kind≤15):aK prog E 108 #[.agg x.cs.toArray] [] λe H'=>e=.returned (.agg x.bare.cs.toArray)∧H'=[]:=by
 obtain⟨k,hk⟩:=aCf (show 0≤x.kind by omega);have hf:=wU E k o_;obtain⟨br,bi,bn,bc⟩:=VY k o_ o_;rw[←hk] at br bi bn bc;have hk16:k<16:=o_;refine t_ func108 ntmps108 ?_;repeat first|refine aE ?_|refine Dr.two ?_ ?_|intro
 rename_i g gres;refine C.BI (X:=Nat) (λg4=>[(1,.pointer (some ⟨g,0,none⟩)),(2,.pointer (some ⟨gres,0,none⟩)),(3,.int .i64 (vN k)),(4,.pointer (some ⟨g4,0,none⟩))])
  (λg4=>[aJ g 39 x.cs,aJ gres 39 E0.cs,aJ g4 39 (⟨x.kind,0,0,0,⟨⟨0,0⟩,0,0,0,0,0,⟨0,0⟩⟩⟩:cH).cs]) (λ_=>True) ?_ ?_
 ·refine rA (l_ [0,1,3,4,5] (.two 2 (g_ 6 (n_ 7 (g_ 8 .nil))) 6 (g_ 2 (n_ 7 (g_ 8 .nil))))) ?_;repeat first|refine aE ?_|intro
  refine Dr.two ?_ ?_
  ·refine yB rfl sD bA sK aC (λM hE=>(by rw[hk];exact wU M k hk16)) ?_;rintro e H' ⟨rfl,rfl⟩;repeat first|refine aE ?_|refine Dr.two ?_ ?_|intro
   exact⟨_,aD,aA,trivial⟩
  ·repeat first|refine aE ?_|intro
   refine cg rfl sD bA sK aC (λM hE=>(by rw[hk];exact wU M k hk16)) ?_;rintro e H' ⟨rfl,rfl⟩;repeat first|refine aE ?_|refine Dr.two ?_ ?_|intro
   exact⟨_,aD,aA,trivial⟩
 rintro g4 G -;refine C.cut (X:=Unit) (λ_=>[(1,.pointer (some ⟨g,0,none⟩)),(2,.pointer (some ⟨gres,0,none⟩)),(3,.int .i64 (vN k)),(4,.pointer (some ⟨g4,0,none⟩))])
  (λ_=>[aJ g 39 x.cs,aJ gres 39 E0.cs,aJ g4 39 (⟨x.kind,wG (Mp x.kind) x.r,0,0,⟨⟨0,0⟩,0,0,0,0,0,⟨0,0⟩⟩⟩:cH).cs]) (λ_=>True) ?_ ?_
 ·cases hh:Mp x.kind
  ·rw[hh,if_neg aAl] at br;rw[show wG false x.r=0 from rfl];repeat first|refine aE ?_|refine Dr.two ?_ ?_|intro
   exact⟨(),aD,aA,trivial⟩
  ·rw[hh,if_pos rfl] at br;rw[show wG true x.r=x.r from rfl];repeat first|refine aE ?_|refine Dr.two ?_ ?_|intro
   exact⟨(),aD,aA,trivial⟩
 rintro - G -;refine C.cut (X:=Unit) (λ_=>[(1,.pointer (some ⟨g,0,none⟩)),(2,.pointer (some ⟨gres,0,none⟩)),(3,.int .i64 (vN k)),(4,.pointer (some ⟨g4,0,none⟩))])
  (λ_=>[aJ g 39 x.cs,aJ gres 39 E0.cs,aJ g4 39 (⟨x.kind,wG (Mp x.kind) x.r,wG (Pv x.kind) x.i,0,⟨⟨0,0⟩,0,0,0,0,0,⟨0,0⟩⟩⟩:cH).cs]) (λ_=>True) ?_ ?_
 ·cases hh:Pv x.kind
  ·rw[hh,if_neg aAl] at bi;rw[show wG false x.i=0 from rfl];repeat first|refine aE ?_|refine Dr.two ?_ ?_|intro
   exact⟨(),aD,aA,trivial⟩
  ·rw[hh,if_pos rfl] at bi;rw[show wG true x.i=x.i from rfl];repeat first|refine aE ?_|refine Dr.two ?_ ?_|intro
   exact⟨(),aD,aA,trivial⟩
 rintro - G -;refine C.cut (X:=Unit) (λ_=>[(1,.pointer (some ⟨g,0,none⟩)),(2,.pointer (some ⟨gres,0,none⟩)),(3,.int .i64 (vN k)),(4,.pointer (some ⟨g4,0,none⟩))])
  (λ_=>[aJ g 39 x.cs,aJ gres 39 E0.cs,aJ g4 39 (⟨x.kind,wG (Mp x.kind) x.r,wG (Pv x.kind) x.i,wG (Qg x.kind) x.n,⟨⟨0,0⟩,0,0,0,0,0,⟨0,0⟩⟩⟩:cH).cs]) (λ_=>True) ?_ ?_
 ·cases hh:Qg x.kind
  ·rw[hh,if_neg aAl] at bn;rw[show wG false x.n=0 from rfl];repeat first|refine aE ?_|refine Dr.two ?_ ?_|intro
   exact⟨(),aD,aA,trivial⟩
  ·rw[hh,if_pos rfl] at bn;rw[show wG true x.n=x.n from rfl];repeat first|refine aE ?_|refine Dr.two ?_ ?_|intro
   exact⟨(),aD,aA,trivial⟩
 rintro - G -;unfold cH.bare;cases hh:Ux x.kind
 ·rw[hh,if_neg aAl] at bc;repeat first|refine aE ?_|refine Dr.two ?_ ?_|intro
  exact Iv
 ·rw[hh,if_pos rfl] at bc;repeat first|refine aE ?_|refine Dr.two ?_ ?_|intro
  exact Iv
theorem Bd(E:Env)(x:cH):aK prog E 51 #[.agg x.cs.toArray] [] λe H'=>e=.returned (.int .i64 x.check)∧H'=[]:=by
 have hsix:x.Yv.length=6:=rfl;refine t_ func51 ntmps51 ?_;repeat first|refine aE ?_|intro
 refine bK (λM=>dV M x.kind 1 15) ?_;unfold cH.check;by_cases hk:1≤x.kind∧x.kind≤15
 case neg =>
  rw[decide_eq_false hk,if_neg hk];repeat first|refine aE ?_|intro
  exact B7
 rw[decide_eq_true hk,if_pos hk];repeat first|refine aE ?_|intro
 rename_i g;generalize hqs:x.Yv=qs at hsix;refine C.loop (X:=Nat) (λi=>[(1,.pointer (some ⟨g,0,none⟩)),(26,.agg (cells qs).toArray),(27,.int .i64 i)]) (λ_=>[aJ g 39 x.cs]) (λi=>i≤6∧(qs.take i).all small=true) (λi=>6 - i) 0 (by subst hqs;exact aD) aB.refl ⟨by omega,rfl⟩ ?_;rintro i G ⟨hi,hall⟩;by_cases hlt:i<6
 ·have hli:i<qs.length:=o_;have hx:(cells qs)[i]?=some (Value.int .i64 qs[i]):=by simp[cells,hli]
  have hstep:(qs.take (i+1)).all small=((qs.take i).all small&&small qs[i]):=by
   rw[aAn hli,List.all_append];simp
  have hmem:qs[i]∈qs:=aCs hli;generalize qs[i]=n at hx hstep hmem;repeat first|refine aE ?_|intro
  refine bK (λM=>dV M n 0 255) ?_;cases hs:decide (0≤n∧n≤255)
  ·have hno:¬qs.all small=true:=λh=>by
    have:=aDm.1 h n hmem;unfold small at this;rw[hs] at this;cases this
   rw[if_neg hno];repeat first|refine aE ?_|intro
   exact B7
  ·have hs2:small n=true:=hs;rw[hall,hs2] at hstep;repeat first|refine aE ?_|intro
   exact⟨i+1,aD,aB.refl,⟨by omega,hstep⟩,by omega⟩
 ·obtain rfl:i=6:=o_;rw[aAj o_] at hall;rw[if_pos hall];clear hall hsix;by_cases hs:0≤x.c.ref.seq∧x.c.ref.seq≤65535
  ·by_cases hn:0≤x.n∧x.n≤2147483647
   ·rw[if_pos ⟨hs,hn⟩];repeat first|refine aE ?_|intro
    refine bW (λM=>dV M x.c.ref.seq 0 65535) ?_;rw[decide_eq_true hs];rintro e H' ⟨rfl,rfl⟩;repeat first|refine aE ?_|intro
    refine bW (λM=>dV M x.n 0 2147483647) ?_;rw[decide_eq_true hn];rintro e H' ⟨rfl,rfl⟩;repeat first|refine aE ?_|intro
    refine rA (l_ [0,2] (g_ 1 (l_ [3,4] .nil))) ?_;repeat first|refine aE ?_|intro
    refine eJ (λM=>Og M x hk.1 hk.2) ?_;by_cases hb:x.bare=x
    ·have hd:(!decide ((⟨x.bare.kind,x.bare.r,x.bare.i,x.bare.n,⟨⟨x.bare.c.id.rep,x.bare.c.id.seq⟩,x.bare.c.time,x.bare.c.kind,x.bare.c.a,x.bare.c.b,x.bare.c.n,⟨x.bare.c.ref.rep,x.bare.c.ref.seq⟩⟩⟩:cH)=⟨x.kind,x.r,x.i,x.n,⟨⟨x.c.id.rep,x.c.id.seq⟩,x.c.time,x.c.kind,x.c.a,x.c.b,x.c.n,⟨x.c.ref.rep,x.c.ref.seq⟩⟩⟩))=false:=by
      show(!decide (x.bare=x))=false;rw[decide_eq_true hb];rfl
     rw[if_pos hb];repeat first|refine aE ?_|intro
     exact B7
    ·have hd:(!decide ((⟨x.bare.kind,x.bare.r,x.bare.i,x.bare.n,⟨⟨x.bare.c.id.rep,x.bare.c.id.seq⟩,x.bare.c.time,x.bare.c.kind,x.bare.c.a,x.bare.c.b,x.bare.c.n,⟨x.bare.c.ref.rep,x.bare.c.ref.seq⟩⟩⟩:cH)=⟨x.kind,x.r,x.i,x.n,⟨⟨x.c.id.rep,x.c.id.seq⟩,x.c.time,x.c.kind,x.c.a,x.c.b,x.c.n,⟨x.c.ref.rep,x.c.ref.seq⟩⟩⟩))=true:=by
      show(!decide (x.bare=x))=true;rw[decide_eq_false hb];rfl
     rw[if_neg hb];repeat first|refine aE ?_|intro
     exact B7
   ·rw[if_neg (λh=>hn h.2)];repeat first|refine aE ?_|intro
    refine bW (λM=>dV M x.c.ref.seq 0 65535) ?_;rw[decide_eq_true hs];rintro e H' ⟨rfl,rfl⟩;repeat first|refine aE ?_|intro
    refine bW (λM=>dV M x.n 0 2147483647) ?_;rw[decide_eq_false hn];rintro e H' ⟨rfl,rfl⟩;repeat first|refine aE ?_|intro
    exact B7
  ·rw[if_neg (λh=>hs h.1)];repeat first|refine aE ?_|intro
   refine bW (λM=>dV M x.c.ref.seq 0 65535) ?_;rw[decide_eq_false hs];rintro e H' ⟨rfl,rfl⟩;repeat first|refine aE ?_|intro
   exact B7
end Go.Proofs.YtmilalkjbojciaaGreat.Sep
namespace Go.Proofs.YtmilalkjbojciaaGreat.Sep
open Oct
abbrev cU:List Nat:=[1,1,2,1,1,4]
abbrev wP(b:List UInt8):bJ:=⟨va cU b 1,va cU b 2⟩
abbrev uG(b:List UInt8):bP:=⟨wP b,va cU b 3,decide ((va cU b 4:Int)=1)⟩
def GZ(b:List UInt8):List UInt8:=b.drop 1
def FW(b:List UInt8):pD :=
 if va cU b 0=1 then R1 ((tT (GZ b)).getD dO)
 else if va cU b 0=2 then R2 (wP b)
 else if va cU b 0=3 then R3 (uG b) (va cU b 5)
 else if va cU b 0=4 then R4 (uG b)
 else⟨va cU b 0,mW,⟨0,0⟩,zR,0⟩
def Li(x:pD):Bool :=
 if x.kind=1 then x.c.may else if x.kind=2 then x.id.may else if x.kind=3 then x.key.may&&mZ x.now else if x.kind=4 then x.key.may else false
def tO(x:pD):List UInt8 :=
 if x.kind=1 then[1]++x.c.put else if x.kind=2 then[2]++kU x.id else if x.kind=3 then[3]++eR x.key++be x.now.toNat 4 else[4]++eR x.key
def vF(b:List UInt8):Option pD:=if Li (FW b)=true∧tO (FW b)=b then some (FW b) else none
abbrev oE(b:List UInt8):bJ:=⟨bX b 1 1,bX b 2 2⟩
abbrev keyOf(b:List UInt8):bP:=⟨oE b,bX b 4 1,decide ((bX b 5 1:Int)=1)⟩
theorem uH{b:List UInt8}{n:Nat}(h:b.length=n):(4≤n→wP b=oE b)∧(6≤n→uG b=keyOf b)∧(10≤n→va cU b 5=bX b 6 4)∧(1≤n→va cU b 0=bX b 0 1):=by
 have h1:4≤n→wP b=oE b:=λh4=>by
  unfold wP oE;rw[dN (k:=1) (w:=1) rfl rfl sD o_,dN (k:=2) (w:=2) rfl rfl sD o_]
 refine⟨h1,λh6=>?_,λh10=>dN rfl rfl sD o_,λh0=>dN rfl rfl sD o_⟩;unfold uG keyOf;rw[h1 o_,dN (k:=4) (w:=1) rfl rfl sD o_,dN (k:=5) (w:=1) rfl rfl sD o_]
theorem RH{b:List UInt8}(h:b.length=0):va cU b 0=0:=Fj (by rw[h];decide)
theorem QJ{b:List UInt8}(h:4≤b.length):kU (oE b)=(b.drop 1).take 3:=by
 unfold kU oE;simp only[aAu];rw[dY o_,dY o_];rw[show(3:Nat)=1+2 from rfl,aDd,aBt]
theorem head_eq{b:List UInt8}{x:UInt8}(h:1≤b.length)(hx:bX b 0 1=x.toNat):b=x::b.drop 1:=by
 cases b with
 |nil=>simp at h
 |cons y t =>
  have:bX (y::t) 0 1=y.toNat:=uY (l:=y::t) (i:=0) (by simp);rw[this] at hx;rw[aEg.1 hx];rfl
theorem TV(k:Nat)(h:k<256):UInt8.ofNat (gQ (decide ((k:Int)=1))).toNat=UInt8.ofNat k↔k≤1:=by
 constructor
 ·intro hh;by_cases h1:k=1
  ·omega
  ·rw[decide_eq_false o_] at hh;have h2:=congrArg UInt8.toNat hh;simp[gQ] at h2;omega
 ·intro hh;rcases(show k=0∨k=1 by omega) with rfl|rfl<;>rfl
theorem Kb{b:List UInt8}(h:6≤b.length):eR (keyOf b)=(b.drop 1).take 5↔bX b 5 1≤1:=by
 have h4:=eM b 4 1;have h5:=eM b 5 1;have e:(b.drop 1).take 5=(b.drop 1).take 3++([UInt8.ofNat (bX b 4 1)]++[UInt8.ofNat (bX b 5 1)]):=by
  rw[←nC,←nC,dY o_,dY o_];rw[show(5:Nat)=3+(1+1) from rfl,aDd,aDd,aBt,aBt]
 unfold eR;rw[e,show(keyOf b).id=oE b from rfl,QJ o_];rw[show((keyOf b).ord).toNat=bX b 4 1 from aAu _,show(keyOf b).cD=decide ((bX b 5 1:Int)=1) from rfl];constructor
 ·intro hh;have h6:=List.append_cancel_left hh;injection h6 with _ h6
  injection h6 with h6 _
  exact(TV _ o_).1 h6
 ·intro hh;rw[(TV _ o_).2 hh];rfl
end Go.Proofs.YtmilalkjbojciaaGreat.Sep
namespace Go.Proofs.YtmilalkjbojciaaGreat.Sep
open Go.RowKit Reg Oct
open Mem hiding Rd
theorem OX{b:List UInt8}(h:va cU b 0=1):FW b=R1 ((tT (GZ b)).getD dO):=if_pos h
theorem OH{b:List UInt8}(h:va cU b 0=2):FW b=R2 (wP b):=by
 unfold FW;rw[if_neg o_,if_pos h]
theorem Nr{b:List UInt8}(h:va cU b 0=3):FW b=R3 (uG b) (va cU b 5):=by
 unfold FW;rw[if_neg o_,if_neg o_,if_pos h]
theorem OD{b:List UInt8}(h:va cU b 0=4):FW b=R4 (uG b):=by
 unfold FW;rw[if_neg o_,if_neg o_,if_neg o_,if_pos h]
theorem Tl{b:List UInt8}(h:¬(1≤va cU b 0∧va cU b 0≤4)):FW b=⟨va cU b 0,mW,⟨0,0⟩,zR,0⟩:=by
 unfold FW;rw[if_neg o_,if_neg o_,if_neg o_,if_neg o_]
def Zs(x:pD):Prop :=
 (Li x=true→∀E,aK prog E 228 #[.agg x.cs.toArray] [] λe H'=>∃A' c',e=.returned (.tuple #[.slice A' (tO x).length c',.int .i64 0])∧H'=[own aU A' (tO x).length c' (tO x)]) ∧
 (Li x=false→∃k:Int,k≠0∧∀E,aK prog E 228 #[.agg x.cs.toArray] [] λe H'=>e=.returned (.tuple #[.slice none 0 0,.int .i64 k])∧H'=[])
theorem Y0(x:pD)(h14:1≤x.kind∧x.kind≤4)(hb:∀E,aK prog E 300 #[.agg x.cs.toArray] [] (rG x false)):∃k:Int,k≠0∧∀E,aK prog E 228 #[.agg x.cs.toArray] [] λe H'=>e=.returned (.tuple #[.slice none 0 0,.int .i64 k])∧H'=[] :=
 ⟨4,by decide,KR x 4 sD (λE=>by have:=HF x false h14 hb E;rwa [if_neg aAl] at this)⟩
theorem P7(b:List UInt8):Zs (FW b):=by
 by_cases h1:va cU b 0=1
 ·rw[OX h1];generalize (tT (GZ b)).getD dO=y;refine⟨λhf E=>?_,λhf=>Y0 _ ⟨show(1:Int)≤1 by decide,show(1:Int)≤4 by decide⟩ λE=>?_⟩
  ·have hm:y.may=true:=hf;have h:=PG E y hm;have e:tO (R1 y)=[1]++y.put:=rfl;rw[e,show([1]++y.put:List UInt8).length=23 by simp[aX.bD]];exact h
  ·have hm:y.may=false:=hf;have h:=IH E y;rw[hm] at h;exact h
 by_cases h2:va cU b 0=2
 ·rw[OH h2];generalize wP b=y;refine⟨λhf E=>?_,λhf=>Y0 _ ⟨show(1:Int)≤2 by decide,show(2:Int)≤4 by decide⟩ λE=>?_⟩
  ·have hm:y.may=true:=hf;have h:=NS E y hm;have e:tO (R2 y)=[2]++kU y:=rfl;rw[e,show([2]++kU y:List UInt8).length=4 by simp[iZ]];exact h
  ·have hm:y.may=false:=hf;have h:=Nl E y;rw[hm] at h;exact h
 by_cases h3:va cU b 0=3
 ·rw[Nr h3];generalize uG b=y;generalize va cU b 5=w;refine⟨λhf E=>?_,λhf=>Y0 _ ⟨show(1:Int)≤3 by decide,show(3:Int)≤4 by decide⟩ λE=>?_⟩
  ·have hm:(y.may&&mZ w)=true:=hf;rw[aAv] at hm;have h:=Ns E y w hm.1 hm.2;have e:tO (R3 y w)=[3]++eR y++be (w:Int).toNat 4:=rfl;rw[e,show([3]++eR y++be (w:Int).toNat 4:List UInt8).length=10 by simp[fO,aP]];exact h
  ·have hm:(y.may&&mZ w)=false:=hf;have h:=Hn E y w;rw[hm] at h;exact h
 by_cases h4:va cU b 0=4
 ·rw[OD h4];generalize uG b=y;refine⟨λhf E=>?_,λhf=>Y0 _ ⟨show(1:Int)≤4 by decide,show(4:Int)≤4 by decide⟩ λE=>?_⟩
  ·have hm:y.may=true:=hf;have h:=Ph E y hm;have e:tO (R4 y)=[4]++eR y:=rfl;rw[e,show([4]++eR y:List UInt8).length=6 by simp[fO]];exact h
  ·have hm:y.may=false:=hf;have h:=Jd E y;rw[hm] at h;exact h
 have hno:¬(1≤va cU b 0∧va cU b 0≤4):=o_;rw[Tl hno];generalize va cU b 0=w at *;refine⟨λhf=>?_,λ_=>⟨12,by decide,KR _ 12 sD (Mu _ ?_)⟩⟩
 ·exfalso;unfold Li at hf;dsimp only at hf;rw[if_neg o_,if_neg o_,if_neg o_,if_neg o_] at hf;cases hf
 ·show ¬((1:Int)≤w∧(w:Int)≤4);omega
theorem AD(E:Env)(A:Option Addr)(n c:Nat)(b:List UInt8)(hr:Rd E aU A n c b)(hl:n≤140737488355300) :
  aK prog E 227 #[.slice A n c] [] λe H'=>e=.returned (.tuple #[.agg ((vF b).getD QL).cs.toArray,.int .i64 (if (vF b).isSome then 0 else 16)])∧H'=[]:=by
 have hn:=hr.len;have hcap:=hr.cap;have o1:1≤1∧1≤8:=o_;have o2:1≤2∧2≤8:=o_;have o4:1≤4∧4≤8:=o_;have q0:rV (vl (false,b) 1)=(va cU b 0:Nat):=cN (aCl (jR _ 1) sD);have q1:rV (vl (st cU b 1) 1)=(va cU b 1:Nat):=cN (aCl (jR _ 1) sD);have q2:rV (vl (st cU b 2) 2)=(va cU b 2:Nat):=cN (aCl (jR _ 2) sD);have q3:rV (vl (st cU b 3) 1)=(va cU b 3:Nat):=cN (aCl (jR _ 1) sD);have q4:rV (vl (st cU b 4) 1)=(va cU b 4:Nat):=cN (aCl (jR _ 1) sD);have q5:rV (vl (st cU b 5) 4)=(va cU b 5:Nat):=cN (aCl (jR _ 4) sD);have hput:=P7 b;have l0:=Ds cU b 0;have hs1:va cU b 0=1→1≤n:=λh=>by
  by_cases h0:b.length=0
  ·rw[RH h0] at h;cases h
  ·omega
 refine t_ func227 ntmps227 ?_;repeat first|refine aE ?_|intro
 refine dX (λM h1=>lD M A n c b h1 (by omega)) ?_;rintro e H' ⟨g,A0,c0,rfl,h5,h6,rfl⟩;refine gk bG ?_;unfold Bs;repeat first|refine aE ?_|intro
 rename_i gres gr;refine L.step sD (S.cW rfl eS rfl rfl func282 q_ rfl aC (λM hE=>eL M gr g (false,b) (st cU b 1) 1 _ rfl q0 A0 n c0 1 rfl o1 dB) ?_);rintro e H' ⟨A1,n1,c1,rfl,hal1,rfl⟩;refine gk bG ?_;repeat ((fail_if_success (refine C.seq (x:=Code.region 4 _ _) ?_));first|refine Cx ?_|refine He ?_|intro _|refine Dr.two ?_ ?_)
 rename_i gx;refine C.BI (X:=Unit) (λ_=>[(0,.slice A n c),(2,.pointer (some ⟨gres,0,none⟩)),(6,.pointer (some ⟨gx,0,none⟩))]) (λ_=>[aJ gres 202 QL.cs,aJ gx 202 (FW b).cs]) (λ_=>True) ?_ ?_
 ·by_cases k1:va cU b 0=1
  ·have hn1:=hs1 k1;have e1:st cU b 1=(false,b.drop 1):=yX (i:=1) sD (by simp;omega);have hnx:nx false (b.drop 1) ((b.drop 1).length:Nat)=(some ((b.drop 1).take (b.drop 1).length),false,(b.drop 1).drop (b.drop 1).length):=Ai (aAf _);rw[aAj (aAf _)] at hnx;have hlen:(b.drop 1).length≤140737488355328:=by simp;omega
   have hlen2:(b.drop 1).length≤140737488355300:=by simp;omega
   have z1:((va cU b 0:Nat):Int)=1:=o_;rw[OX k1,z1];rw[e1] at hal1⊢;dsimp only at hal1⊢;unfold GZ;generalize b.drop 1=d at *;generalize hy:(tT d).getD dO=y;repeat first|refine aE ?_|intro
   refine rB (l_ [0,1] (g_ 2 (g_ 3 (l_ [4,5,6,7,8] .nil)))) ([aJ gr 276 [.pointer (some ⟨g,0,none⟩)]]) ?_;repeat first|refine aE ?_|intro
   refine cg rfl sD bA sK aC (λM hE=>tV M g false A1 n1 c1 d (hal1 _ dB)) ?_;rw[if_neg aAl];rintro e H' ⟨rfl,rfl⟩;repeat first|refine aE ?_|intro
   refine cg rfl sD bA sK aC (λM hE=>kR M g false A1 n1 c1 d d.length (hal1 _ dB) hlen) ?_;rw[hnx];rintro e H' ⟨A3,n3,c3,B,dd,rfl,hal3,hmd,hd3,rfl⟩;dsimp only[Option.getD,Option.isSome] at hmd⊢;repeat first|refine aE ?_|intro
   refine cl sD sK aC (λM hE=>xS M B d.length dd d _ rfl dB hlen2) ?_;rw[hy];rintro e H' ⟨rfl,rfl⟩;repeat first|refine aE ?_|intro
   exact⟨(),aD,aA,trivial⟩
  by_cases k2:va cU b 0=2
  ·have z2:((va cU b 0:Nat):Int)=2:=o_;rw[OH k2,z2];repeat first|refine aE ?_|intro
   refine L.step sD (S.cW rfl eS rfl rfl func282 q_ rfl aC (λM hE=>eL M gr g (st cU b 1) (st cU b 2) 1 _ rfl q1 A1 n1 c1 1 rfl o1 (hal1 _ dB)) ?_);rintro e H' ⟨A2,n2,c2,rfl,hal2,rfl⟩;repeat first|refine aE ?_|intro
   refine L.step sD (S.cW rfl eS rfl rfl func282 q_ rfl aC (λM hE=>eL M gr g (st cU b 2) (st cU b 3) 2 _ rfl q2 A2 n2 c2 2 rfl o2 (hal2 _ (hal1 _ dB))) ?_);rintro e H' ⟨A3,n3,c3,rfl,hal3,rfl⟩;repeat first|refine aE ?_|intro
   exact⟨(),aD,aA,trivial⟩
  by_cases k3:va cU b 0=3
  ·have z3:((va cU b 0:Nat):Int)=3:=o_;rw[Nr k3,z3];repeat first|refine aE ?_|intro
   refine L.step sD (S.cW rfl eS rfl rfl func282 q_ rfl aC (λM hE=>eL M gr g (st cU b 1) (st cU b 2) 1 _ rfl q1 A1 n1 c1 1 rfl o1 (hal1 _ dB)) ?_);rintro e H' ⟨A2,n2,c2,rfl,hal2,rfl⟩;repeat first|refine aE ?_|intro
   refine L.step sD (S.cW rfl eS rfl rfl func282 q_ rfl aC (λM hE=>eL M gr g (st cU b 2) (st cU b 3) 2 _ rfl q2 A2 n2 c2 2 rfl o2 (hal2 _ (hal1 _ dB))) ?_);rintro e H' ⟨A3,n3,c3,rfl,hal3,rfl⟩;repeat first|refine aE ?_|intro
   refine L.step sD (S.cW rfl eS rfl rfl func282 q_ rfl aC (λM hE=>eL M gr g (st cU b 3) (st cU b 4) 1 _ rfl q3 A3 n3 c3 1 rfl o1 (hal3 _ (hal2 _ (hal1 _ dB)))) ?_);rintro e H' ⟨A4,n4,c4,rfl,hal4,rfl⟩;repeat first|refine aE ?_|intro
   refine L.step sD (S.cW rfl eS rfl rfl func282 q_ rfl aC (λM hE=>eL M gr g (st cU b 4) (st cU b 5) 1 _ rfl q4 A4 n4 c4 1 rfl o1 (hal4 _ (hal3 _ (hal2 _ (hal1 _ dB))))) ?_);rintro e H' ⟨A5,n5,c5,rfl,hal5,rfl⟩;repeat first|refine aE ?_|intro
   refine L.step sD (S.cW rfl eS rfl rfl func282 q_ rfl aC (λM hE=>eL M gr g (st cU b 5) (st cU b 6) 4 _ rfl q5 A5 n5 c5 4 rfl o4 (hal5 _ (hal4 _ (hal3 _ (hal2 _ (hal1 _ dB)))))) ?_);rintro e H' ⟨A6,n6,c6,rfl,hal6,rfl⟩;repeat first|refine aE ?_|intro
   exact⟨(),aD,aA,trivial⟩
  by_cases k4:va cU b 0=4
  ·have z4:((va cU b 0:Nat):Int)=4:=o_;rw[OD k4,z4];repeat first|refine aE ?_|intro
   refine L.step sD (S.cW rfl eS rfl rfl func282 q_ rfl aC (λM hE=>eL M gr g (st cU b 1) (st cU b 2) 1 _ rfl q1 A1 n1 c1 1 rfl o1 (hal1 _ dB)) ?_);rintro e H' ⟨A2,n2,c2,rfl,hal2,rfl⟩;repeat first|refine aE ?_|intro
   refine L.step sD (S.cW rfl eS rfl rfl func282 q_ rfl aC (λM hE=>eL M gr g (st cU b 2) (st cU b 3) 2 _ rfl q2 A2 n2 c2 2 rfl o2 (hal2 _ (hal1 _ dB))) ?_);rintro e H' ⟨A3,n3,c3,rfl,hal3,rfl⟩;repeat first|refine aE ?_|intro
   refine L.step sD (S.cW rfl eS rfl rfl func282 q_ rfl aC (λM hE=>eL M gr g (st cU b 3) (st cU b 4) 1 _ rfl q3 A3 n3 c3 1 rfl o1 (hal3 _ (hal2 _ (hal1 _ dB)))) ?_);rintro e H' ⟨A4,n4,c4,rfl,hal4,rfl⟩;repeat first|refine aE ?_|intro
   refine L.step sD (S.cW rfl eS rfl rfl func282 q_ rfl aC (λM hE=>eL M gr g (st cU b 4) (st cU b 5) 1 _ rfl q4 A4 n4 c4 1 rfl o1 (hal4 _ (hal3 _ (hal2 _ (hal1 _ dB))))) ?_);rintro e H' ⟨A5,n5,c5,rfl,hal5,rfl⟩;repeat first|refine aE ?_|intro
   exact⟨(),aD,aA,trivial⟩
  rw[Tl o_];repeat first|refine aE ?_|intro
  exact⟨(),aD,aA,trivial⟩
 rintro - G -;have hkg:vF b=if Li (FW b)=true∧tO (FW b)=b then some (FW b) else none:=rfl
 generalize FW b=x at *;repeat first|refine aE ?_|intro
 cases hf:Li x
 ·obtain⟨k,hk0,hk⟩:=hput.2 hf;rw[if_neg (λh=>by rw[hf] at h;cases h.1)] at hkg;rw[hkg];dsimp only[Option.getD,Option.isSome];rw[if_neg aAl];refine bK hk ?_;repeat first|refine aE ?_|intro
  exact Qv
 ·have hp:=hput.1 hf;refine bW hp ?_;rintro e H' ⟨A2,c2,rfl,rfl⟩;refine gk bG ?_;by_cases hb:tO x=b
  ·rw[if_pos ⟨hf,hb⟩] at hkg;rw[hkg];dsimp only[Option.getD,Option.isSome];rw[if_pos rfl];have hd:decide (tO x≠b)=false:=by simp[hb]
   repeat first|refine aE ?_|intro
   exact Qv
  ·rw[if_neg (λh=>hb h.2)] at hkg;rw[hkg];dsimp only[Option.getD,Option.isSome];rw[if_neg aAl];have hd:decide (tO x≠b)=true:=by simp[hb]
   repeat first|refine aE ?_|intro
   exact Qv
end Go.Proofs.YtmilalkjbojciaaGreat.Sep
namespace Go.Proofs.YtmilalkjbojciaaGreat.Sep
open Oct
theorem Uz{b:List UInt8}(h0:bX b 0 1=1)(hn:b.length=23):vF b=(tT (b.drop 1)).map R1:=by
 have hv:=(uH (b:=b) rfl).2.2.2 o_;have hb:=head_eq (x:=1) o_ h0;unfold vF;rw[OX o_];unfold GZ;cases hc:tT (b.drop 1) with
 |none =>
  rw[if_neg]
  ·rfl
  ·rintro⟨hf,_⟩;have:dO.may=true:=hf;revert this;decide
 |some c =>
  obtain⟨_,hm,hp,_⟩:=Du hc;rw[if_pos]
  ·rfl
  ·refine⟨hm,?_⟩;show[1]++c.put=b;rw[hp];exact hb.symm
theorem T9{b:List UInt8}(h0:bX b 0 1=2)(hn:b.length=4):vF b=if (oE b).may=true then some (R2 (oE b)) else none:=by
 have hv:=(uH (b:=b) rfl).2.2.2 o_;have hr:=(uH (b:=b) rfl).1 o_;have hb:=head_eq (x:=2) o_ h0;unfold vF;rw[OH o_,hr];refine BA ⟨λh=>h.1,λh=>⟨h,?_⟩⟩;show[2]++kU (oE b)=b;rw[QJ o_,aAj (by simp;omega)];exact hb.symm
theorem UA{b:List UInt8}(h0:bX b 0 1=3)(hn:b.length=10):vF b=if bX b 5 1≤1∧((keyOf b).may&&mZ (bX b 6 4))=true then some (R3 (keyOf b) (bX b 6 4)) else none:=by
 have hv:=(uH (b:=b) rfl).2.2.2 o_;have hr:=(uH (b:=b) rfl).2.1 o_;have hw:=(uH (b:=b) rfl).2.2.1 o_;have hb:=head_eq (x:=3) o_ h0;have hput:tO (R3 (keyOf b) (bX b 6 4))=b↔bX b 5 1≤1:=by
  have e:tO (R3 (keyOf b) (bX b 6 4))=3::(eR (keyOf b)++be (bX b 6 4) 4):=by
   show[3]++eR (keyOf b)++be ((bX b 6 4:Nat):Int).toNat 4=_;rw[aAu];simp
  have e2:b.drop 1=(b.drop 1).take 5++(b.drop 6).take 4:=by
   rw[aAj (l:=b.drop 6) (by simp;omega)];have:=(aAx 5 (b.drop 1)).symm;rw[aBt] at this;exact this
  rw[e,dY o_,←Kb o_];constructor
  ·intro h;rw[hb] at h;injection h with _ h
   have h2:eR (keyOf b)++(b.drop 6).take 4=b.drop 1:=by
    have h3:=congrArg (List.drop 1) h;rw[hb];simpa using h
   rw[e2] at h2;exact List.append_cancel_right h2
  ·intro h;rw[h,←e2];exact hb.symm
 unfold vF;rw[Nr o_,hr,hw];exact BA ⟨λh=>⟨hput.1 h.2,h.1⟩,λh=>⟨h.2,hput.2 h.1⟩⟩
theorem UZ{b:List UInt8}(h0:bX b 0 1=4)(hn:b.length=6):vF b=if bX b 5 1≤1∧(keyOf b).may=true then some (R4 (keyOf b)) else none:=by
 have hv:=(uH (b:=b) rfl).2.2.2 o_;have hr:=(uH (b:=b) rfl).2.1 o_;have hb:=head_eq (x:=4) o_ h0;have hput:tO (R4 (keyOf b))=b↔bX b 5 1≤1:=by
  have e:tO (R4 (keyOf b))=4::eR (keyOf b):=rfl;have e2:b.drop 1=(b.drop 1).take 5:=(aAj (by simp;omega)).symm;rw[e,←Kb o_,←e2];constructor
  ·intro h;have h3:=congrArg (List.drop 1) h;simpa using h3
  ·intro h;rw[h];exact hb.symm
 unfold vF;rw[OD o_,hr];exact BA ⟨λh=>⟨hput.1 h.2,h.1⟩,λh=>⟨h.2,hput.2 h.1⟩⟩
end Go.Proofs.YtmilalkjbojciaaGreat.Sep
namespace Go.Proofs.YtmilalkjbojciaaGreat.Sep
open Go.RowKit Reg Oct Frm
open Mem hiding Rd
theorem tR(E:Env)(n:Int):aK prog E 243 #[.int .i64 n] [] λe H'=>e=.returned (.int .i64 (if 1≤n∧n≤4096 then n+7 else 0))∧H'=[]:=by
 refine t_ func243 ntmps243 ?_;by_cases h1:n<1
 ·rw[if_neg o_];repeat first|refine aE ?_|intro
  exact B7
 ·by_cases h2:4096<n
  ·rw[if_neg o_];repeat first|refine aE ?_|intro
   exact B7
  ·rw[if_pos o_];have e1:IntKind.i64.wrap (2+n)=n+2:=by rw[aAq _ o_];omega
   have e2:IntKind.i64.wrap (n+2+4)=n+6:=by rw[aAq _ o_];omega
   have e3:IntKind.i64.wrap (n+6+1)=n+7:=by rw[aAq _ o_];omega
   repeat first|refine aE ?_|intro
   exact B7
section
variable (E:Env) (A:Option Addr) (n c:Nat) (l:List UInt8)
theorem QN:aK prog E 239 #[.slice A 0 c] [] λe H'=>e=.returned (.tuple #[.slice none 0 0,.int .i64 4])∧H'=[]:=by
 have hm:0≤maxLen:=aAh _;refine t_ func239 ntmps239 ?_;repeat first|refine aE ?_|intro
 exact Xs
theorem D5(hr:Rd E aU A n c l)(hn:4096<n):aK prog E 239 #[.slice A n c] [] λe H'=>e=.returned (.tuple #[.slice none 0 0,.int .i64 5])∧H'=[]:=by
 have hcap:=hr.cap;refine t_ func239 ntmps239 ?_;repeat first|refine aE ?_|intro
 refine bW (λM=>tR M n) ?_;rw[if_neg o_];rintro e H' ⟨rfl,rfl⟩;repeat first|refine aE ?_|intro
 exact Xs
theorem SM(l:List UInt8)(k:Nat):Oct.put l k 2=l++be k 2:=if_neg o_
theorem Y9(l:List UInt8)(k:Nat):Oct.put l k 4=l++be k 4:=if_neg o_
theorem uR(hr:Rd E aU A n c l)(h1:1≤n)(hn:n≤4096):aK prog E 239 #[.slice A n c] [] λe H'=>∃A' c',e=.returned (.tuple #[.slice A' (n+7) c',.int .i64 0])∧H'=[own aU A' (n+7) c' (fr l)]:=by
 have hcap:=hr.cap;have hln:=hr.len;have hsl:=Crc.EW l;have hp2:Oct.put [] n 2=be n 2:=by rw[SM];rfl
 have hb2:=aP n 2;have hp4:Oct.put (be n 2++l) (Crc.sum l) 4=be n 2++l++be (Crc.sum l) 4:=Y9 _ _;have hb4:(be n 2++l++be (Crc.sum l) 4).length=n+6:=by simp[aP];omega
 have hfr:be n 2++l++be (Crc.sum l) 4++[UInt8.ofNat (Int.toNat 90)]=fr l:=by unfold fr;rw[←hln];rfl
 refine t_ func239 ntmps239 ?_;repeat first|refine aE ?_|intro
 refine bW (λM=>tR M n) ?_;rw[if_pos o_];rintro e H' ⟨rfl,rfl⟩;repeat first|refine aE ?_|intro
 refine dX (λM h1=>FL M none 0 0 [] n 2 h1 (by omega) (by omega)) ?_;rw[hp2];unfold uQ;rw[hb2];rintro e H' ⟨A1,c1,rfl,h2,h3,rfl⟩;repeat first|refine aE ?_|intro
 rename_i A2 c2 _ _;refine L.fQ sD (S.cB (T:=vQ) (e:=(⟨A,n,c,l⟩:Oc)) rfl rfl rfl rfl sD) ?_;rintro _ _ ⟨_,rfl,rfl⟩;repeat first|refine aE ?_|intro
 refine DY (λM h1=>Bc M 0 A n c l h1 _) ?_;repeat first|refine aE ?_|intro
 refine dX (λM h1=>FL M A2 (2+n) c2 (be n 2++l) (Crc.sum l) 4 h1 (by omega) (by omega)) ?_;rw[hp4];unfold uQ;rw[hb4];rintro e H' ⟨A3,c3,rfl,h4,h5,rfl⟩;repeat first|refine aE ?_|intro
 rw[hfr];exact Cz ⟨_,_,rfl,rfl⟩
theorem uW{l:List UInt8}{k:Nat}(h:k≤l.length):nx false l k=(some (l.take k),false,l.drop k):=by
 unfold nx;rw[if_neg (by simp),if_neg o_,aAu]
theorem Nf{l:List UInt8}{k:Nat}(h:l.length<k):nx false l k=(none,true,l):=by
 unfold nx;rw[if_neg (by simp),if_pos o_]
theorem Ha(hr:Rd E aU A n c l)(hl:n≤140737488355200)(x:List UInt8)(k:Nat)(hx:kG l=some (x,k)) :
  aK prog E 184 #[.slice A n c] [] λe H'=>∃B d,e=.returned (.tuple #[.slice B x.length d,.int .i64 k,.bool true])∧H'=[own aU B x.length d x]:=by
 have hn:=hr.len;have hcap:=hr.cap;unfold kG at hx;split at hx
 case isFalse=>cases hx
 rename_i hok;injection hx with hx;injection hx with hx hk
 subst hk;obtain⟨h2,h1,h3,h4,h90,hsum⟩:=hok;have hxl:x.length=size l:=by rw[←hx];simp;omega
 have hnx1:nx false l (wid 2)=(some (l.take 2),false,l.drop 2):=uW h2;have hnx2:nx false (l.drop 2) (size l:Nat)=(some ((l.drop 2).take (size l)),false,(l.drop 2).drop (size l)):=uW (by simp;omega);have hnx3:nx false ((l.drop 2).drop (size l)) (wid 4)=(some (((l.drop 2).drop (size l)).take 4),false,((l.drop 2).drop (size l)).drop 4):=uW (by simp;omega);have hget:Oct.get (l.take 2)=size l:=rfl;have hg4:Oct.get (((l.drop 2).drop (size l)).take 4)=Crc.sum x:=by rw[aBt,aEs 2 (size l),hsum,hx]
 have hsl:=Crc.EW x;generalize size l=s at *;have hs1:IntKind.i64.wrap ((s:Int)+7 - 1)=((s+6:Nat):Int):=by rw[aAq _ o_];omega
 refine t_ func184 ntmps184 ?_;repeat first|refine aE ?_|intro
 refine dX (λM h1=>lD M A n c l h1 (by omega)) ?_;rintro e H' ⟨g,A0,c0,rfl,h5,h6,rfl⟩;refine gk bG ?_;unfold Bs;repeat first|refine aE ?_|intro
 refine dX (λM=>iG M g false A0 n c0 l 2) ?_;rw[hnx1];rintro e H' ⟨A1,n1,c1,rfl,hal1,rfl⟩;refine gk bG ?_;simp only[tk,hget];repeat first|refine aE ?_|intro
 refine bW (λM=>tR M s) ?_;rw[if_pos o_];rintro e H' ⟨rfl,rfl⟩;repeat first|refine aE ?_|intro
 refine cl sD sK aC (λM hE=>kR M g false A1 n1 c1 (l.drop 2) s (hal1 _ dB) (by simp;omega)) ?_;rw[hnx2];rintro e H' ⟨A3,n3,c3,B,d,rfl,hal3,hmd,hd3,rfl⟩;dsimp only[Option.getD,Option.isSome] at hmd⊢;rw[hx] at hmd⊢;repeat first|refine aE ?_|intro
 refine cl sD sK aC (λM hE=>iG M g false A3 n3 c3 ((l.drop 2).drop s) 4 (hal3 _ (hal1 _ dB))) ?_;rw[hnx3];rintro e H' ⟨A4,n4,c4,rfl,hal4,rfl⟩;refine gk bG ?_;simp only[tk,hg4];repeat first|refine aE ?_|intro
 refine L.fQ sD (S.cB (T:=vQ) (e:=(⟨B,x.length,d,x⟩:Oc)) rfl rfl rfl rfl sD) ?_;rintro _ _ ⟨_,rfl,rfl⟩;repeat first|refine aE ?_|intro
 refine DY (λM h1=>Bc M 0 B x.length d x h1 _) ?_;repeat first|refine aE ?_|intro
 exact Ma rfl aF aF aF aA (⟨_,_,rfl,rfl⟩)
theorem Ka(hr:Rd E aU A n c l)(hl:n≤140737488355200)(hx:kG l=none) :
  aK prog E 184 #[.slice A n c] [] λe H'=>e=.returned (.tuple #[.slice none 0 0,.int .i64 0,.bool false])∧H'=[]:=by
 have hn:=hr.len;have hcap:=hr.cap;have hno:¬ok l:=by
  intro h;unfold kG at hx;rw[if_pos h] at hx;cases hx
 refine t_ func184 ntmps184 ?_;repeat first|refine aE ?_|intro
 refine dX (λM h1=>lD M A n c l h1 (by omega)) ?_;rintro e H' ⟨g,A0,c0,rfl,h5,h6,rfl⟩;refine gk bG ?_;unfold Bs;repeat first|refine aE ?_|intro
 refine dX (λM=>iG M g false A0 n c0 l 2) ?_;by_cases h2:2≤l.length
 ·have hnx1:nx false l (wid 2)=(some (l.take 2),false,l.drop 2):=uW h2;have hget:Oct.get (l.take 2)=size l:=rfl;have hs65:size l<65536:=by
   have:=BY (l.take 2);rw[aAg,aBr h2] at this;exact this
  rw[hnx1];rintro e H' ⟨A1,n1,c1,rfl,hal1,rfl⟩;refine gk bG ?_;simp only[tk,hget];repeat first|refine aE ?_|intro
  refine bW (λM=>tR M (size l)) ?_;by_cases h1:1≤size l∧size l≤4096
  ·rw[if_pos o_];rintro e H' ⟨rfl,rfl⟩;refine gk bG ?_;by_cases h4:size l+7≤l.length
   ·have hx6:l[size l+6]?=some l[size l+6]:=aAa o_;have hs1:IntKind.i64.wrap ((size l:Int)+7 - 1)=((size l+6:Nat):Int):=by rw[aAq _ o_];omega
    by_cases h90:l[size l+6]=90
    ·rw[h90] at hx6;have hsum:Oct.get ((l.drop (size l+2)).take 4)≠Crc.sum ((l.drop 2).take (size l)):=λh=>hno ⟨h2,h1.1,h1.2,h4,hx6,h⟩;have hxl:((l.drop 2).take (size l)).length=size l:=by simp;omega
     have hnx2:nx false (l.drop 2) (size l:Nat)=(some ((l.drop 2).take (size l)),false,(l.drop 2).drop (size l)):=uW (by simp;omega);have hnx3:nx false ((l.drop 2).drop (size l)) (wid 4)=(some (((l.drop 2).drop (size l)).take 4),false,((l.drop 2).drop (size l)).drop 4):=uW (by simp;omega);have hg4:Oct.get (((l.drop 2).drop (size l)).take 4)≠Crc.sum ((l.drop 2).take (size l)):=by rw[aBt,aEs 2 (size l)];exact hsum
     have hsl:=Crc.EW ((l.drop 2).take (size l));have hgl:=BY (((l.drop 2).drop (size l)).take 4);rw[show(((l.drop 2).drop (size l)).take 4).length=4 by simp;omega] at hgl;clear hget hno hx hsum;generalize (l.drop 2).take (size l)=x at *;generalize hy:Oct.get (((l.drop 2).drop (size l)).take 4)=y at *;generalize size l=s at *;repeat first|refine aE ?_|intro
     refine cl sD sK aC (λM hE=>kR M g false A1 n1 c1 (l.drop 2) s (hal1 _ dB) (by simp;omega)) ?_;rw[hnx2];rintro e H' ⟨A3,n3,c3,B,d,rfl,hal3,hmd,hd3,rfl⟩;dsimp only[Option.getD,Option.isSome] at hmd⊢;repeat first|refine aE ?_|intro
     refine cl sD sK aC (λM hE=>iG M g false A3 n3 c3 ((l.drop 2).drop s) 4 (hal3 _ (hal1 _ dB))) ?_;rw[hnx3];rintro e H' ⟨A4,n4,c4,rfl,hal4,rfl⟩;refine gk bG ?_;simp only[tk,hy];repeat first|refine aE ?_|intro
     refine L.fQ sD (S.cB (T:=vQ) (e:=(⟨B,x.length,d,x⟩:Oc)) rfl rfl rfl rfl sD) ?_;rintro _ _ ⟨_,rfl,rfl⟩;repeat first|refine aE ?_|intro
     refine DY (λM h1=>Bc M 0 B x.length d x h1 _) ?_;repeat first|refine aE ?_|intro
     exact Ma rfl aF aF aF aA (⟨rfl,rfl⟩)
    ·have h90':l[size l+6].toNat≠90:=λh=>h90 (aEg.1 h);repeat first|refine aE ?_|intro
     exact Ma rfl aF aF aF aA (⟨rfl,rfl⟩)
   ·repeat first|refine aE ?_|intro
    exact Ma rfl aF aF aF aA (⟨rfl,rfl⟩)
  ·rw[if_neg o_];rintro e H' ⟨rfl,rfl⟩;repeat first|refine aE ?_|intro
   exact Ma rfl aF aF aF aA (⟨rfl,rfl⟩)
 ·have hnx1:nx false l (wid 2)=(none,true,l):=Nf (k:=2) o_;rw[hnx1];rintro e H' ⟨A1,n1,c1,rfl,hal1,rfl⟩;refine gk bG ?_;simp only[tk];repeat first|refine aE ?_|intro
  refine bW (λM=>tR M 0) ?_;rw[if_neg o_];rintro e H' ⟨rfl,rfl⟩;repeat first|refine aE ?_|intro
  exact Ma rfl aF aF aF aA (⟨rfl,rfl⟩)
end
section
variable (E:Env) (A:Option Addr) (n c:Nat) (l:List UInt8)
theorem LP{H:List aL}:aB E H (own vQ none 0 0 []::aO uL []::H):=λw hw=>aB.nil vQ w (aB.kP uL w hw)
theorem Zy(hr:Rd E aU A n c l)(hl:n≤2000000) :
  aK prog E 223 #[.slice A n c] [] λe H'=>∃O co xs,e=.returned (.tuple #[.slice O xs.length co,.int .i64 (upto l)])∧H'=[own vQ O xs.length co xs,aO uL xs]∧xs.map (·.b)=cZ l:=by
 have hn:=hr.len;have hcap:=hr.cap;have hfc:=yG l;refine t_ func223 ntmps223 ?_;repeat first|refine aE ?_|intro
 refine C.loop (X:=Nat×Option Addr×Nat×List Oc) (λx=>[(0,.slice A n c),(4,.slice x.2.1 x.2.2.2.length x.2.2.1),(5,.int .i64 x.1)]) (λx=>[own vQ x.2.1 x.2.2.2.length x.2.2.1 x.2.2.2,aO uL x.2.2.2])
  (λx=>x.1≤n∧x.2.2.2.map (·.b)++cZ (l.drop x.1)=cZ l∧x.1+upto (l.drop x.1)=upto l) (λx=>n - x.1) (0,none,0,[]) aD (LP E) ⟨aAh _,rfl,by simp⟩ ?_
 rintro⟨i,O,co,xs⟩ G ⟨hi,hfs,hup⟩;dsimp only at hi hfs hup⊢;have bS:=hr.from_ (k:=i) hi;have hxm:xs.length≤(cZ l).length:=by rw[←hfs];simp
 repeat first|refine aE ?_|intro
 cases hq:kG (l.drop i) with
 |none =>
  have hz:=gR hq;rw[hz.1,aAc] at hfs;rw[hz.2,aFb] at hup;refine cl sD sK aC (λM hE=>Ka M _ (n - i) (c - i) (l.drop i) dB o_ hq) ?_;rintro e H' ⟨rfl,rfl⟩;repeat first|refine aE ?_|intro
  exact vT rfl aF aF aA (⟨_,_,_,by rw[←hup],rfl,hfs⟩)
 |some r =>
  obtain⟨x,k⟩:=r;have hb:=lW hq;have hz:=kM hq;rw[aBd] at hb;refine cl sD sK aC (λM hE=>Ha M _ (n - i) (c - i) (l.drop i) dB o_ x k hq) ?_;rintro e H' ⟨B,d,rfl,rfl⟩;repeat first|refine aE ?_|intro
  refine L.fQ sD (S.cB (T:=vQ) (e:=(⟨B,x.length,d,x⟩:Oc)) rfl rfl rfl rfl sD) ?_;rintro _ _ ⟨_,rfl,rfl⟩;repeat first|refine aE ?_|intro
  rename_i A' c' _ _;have hlen:(xs++[(⟨B,x.length,d,x⟩:Oc)]).length=xs.length+1:=by simp
  rw[hz.1] at hfs;rw[hz.2] at hup;refine⟨(i+k,A',c',xs++[(⟨B,x.length,d,x⟩:Oc)]),?_,?_,⟨by dsimp only;omega,?_,?_⟩,by dsimp only;omega⟩
  ·dsimp only;rw[hlen];exact aD
  ·dsimp only;rw[hlen];exact(aB.push (f:=uL) (x:=⟨B,x.length,d,x⟩) aC).trans aA
  ·dsimp only;rw[←hfs,aBk,aAb,←aBt];rfl
  ·dsimp only;rw[←hup,←aBt];omega
end
end Go.Proofs.YtmilalkjbojciaaGreat.Sep
namespace Go.Proofs.YtmilalkjbojciaaGreat.Sep
def sp(D:List UInt8)(o:Nat)(x:List UInt8):List UInt8:=D.take o++x++D.drop (o+x.length)
theorem dZ{D:List UInt8}{o:Nat}{x:List UInt8}(h:o+x.length≤D.length):(sp D o x).length=D.length:=by
 unfold sp;simp only[aAe,aAg,aBd];omega
theorem oM{D:List UInt8}{o:Nat}{x:List UInt8}(h:o+x.length≤D.length)(j:Nat):(sp D o x)[j]?=if j<o then D[j]? else if j<o+x.length then x[j - o]? else D[j]?:=by
 unfold sp;have h1:(D.take o).length=o:=by rw[aAg];omega
 by_cases h2:j<o
 ·rw[if_pos h2,aAb,aBp o_,aEd,if_pos h2]
 ·rw[if_neg h2];by_cases h3:j<o+x.length
  ·rw[if_pos h3,aBp (by rw[aAe];omega),aBc o_,h1]
  ·rw[if_neg h3,aBc (by rw[aAe];omega),aAe,h1,aCv];congr 1;omega
theorem Cm(D:List UInt8)(o:Nat):sp D o []=D:=by unfold sp;simp
theorem iA{l:List UInt8}{k j:Nat}:(l.take k)[j]?=if j<k then l[j]? else none:=aEd
theorem Cu{l:List AR}{i:Nat}(h:i<l.length):flat l=flat (l.take i)++l[i].1++flat (l.drop (i+1)):=by
 have:l=l.take i++l[i]::l.drop (i+1):=by rw[←aAm h,aAx]
 conv=>lhs;rw[this]
 rw[mS,aAb];rfl
theorem F4{l:List AR}{i k:Nat}{b:List UInt8}(hb:b.length=32)(hk:k≤32)(h:i<l.length):flat (l.set i (front k b hb hk l[i]))=sp (flat l) (32*i) (b.take k):=by
 have hset:l.set i (front k b hb hk l[i])=l.take i++front k b hb hk l[i]::l.drop (i+1):=by
  rw[aDg,if_pos h]
 have hA:(flat (l.take i)).length=32*i:=by rw[eI,aAg];omega
 have hS:=l[i].2;have hbk:(b.take k).length=k:=by rw[aAg];omega
 rw[hset,mS,Cu h];show flat (l.take i)++((b.take k++l[i].1.drop k)++flat (l.drop (i+1)))=_;unfold sp;rw[hbk];simp only[aAb];have hd:(flat (l.take i)++(l[i].1++flat (l.drop (i+1)))).drop (32*i+k)=l[i].1.drop k++flat (l.drop (i+1)):=by
  rw[←hA,aGj,aFa o_];simp
 rw[aBj hA,hd]
theorem GB{l:List AR}{i:Nat}(h:i<l.length):l[i].1=((flat l).drop (32*i)).take 32:=by
 have hA:(flat (l.take i)).length=32*i:=by rw[eI,aAg];omega
 rw[Cu h,aAb,aBu hA,aBj l[i].2]
theorem LA(l:List AR)(k:Nat):flat (l.take k)=(flat l).take (32*k):=by
 by_cases h:k≤l.length
 ·have h1:flat l=flat (l.take k)++flat (l.drop k):=by rw[←mS,aAx]
  rw[h1,aBj (by rw[eI,aAg];omega)]
 ·rw[aAj o_,aAj (by rw[eI];omega)]
theorem MJ(l:List AR)(k:Nat):flat (l.drop k)=(flat l).drop (32*k):=by
 by_cases h:k≤l.length
 ·have h1:flat l=flat (l.take k)++flat (l.drop k):=by rw[←mS,aAx]
  rw[h1,aBu (by rw[eI,aAg];omega)]
 ·rw[List.drop_eq_nil_of_le o_,List.drop_eq_nil_of_le (by rw[eI];omega)];rfl
def bS(N h:Nat):Nat:=32*(1+h*N)
def bB(D:List UInt8)(N h:Nat):List UInt8:=(D.drop (bS N h)).take (32*N)
theorem IU(l:List AR)(N h:Nat):flat ((l.drop (1+h*N)).take N)=bB (flat l) N h:=by
 unfold bB bS;rw[LA,MJ]
theorem eH{D:List UInt8}{N h:Nat}(hD:D.length=32*(2*N+1))(hh:h≤1):(bB D N h).length=32*N:=by
 unfold bB bS;rw[aAg,aBd,hD];have:h*N≤1*N:=aBa _ hh;omega
theorem qY{D:List UInt8}{N h p:Nat}(hp:p<32*N):(bB D N h)[p]?=D[bS N h+p]?:=by
 unfold bB;rw[iA,if_pos hp,aCv]
def Hc(at_ len:Nat):Nat:=if len=0 then 0 else(at_+len+31) / 32 - at_ / 32
def iT(F:Int)(a len:Nat):Bool:=decide (0≤F∧F<32*(Hc a len:Nat))
def lq(F:Int)(a len:Nat):Nat:=if 0≤F∧F<32*(Hc a len:Nat) then min len (F.toNat - a % 32) else len
def fY(F:Int)(a len:Nat):Int:=if 0≤F∧F<32*(Hc a len:Nat) then -1 else if F = -1 then -1 else F - 32*(Hc a len:Nat)
theorem Wz(F:Int)(a len:Nat):lq F a len≤len:=by unfold lq;split<;>omega
theorem zV{F:Int}{a len:Nat}(h:iT F a len=false):lq F a len=len:=by
 unfold iT at h;have h:=of_decide_eq_false h;unfold lq;rw[if_neg h]
theorem rU{F:Int}(h : -1≤F)(a len:Nat) : -1≤fY F a len:=by unfold fY;split;omega;split<;>omega
theorem R6{D b:List UInt8}{N h a i k:Nat}(hD:D.length=32*(2*N+1))(hh:h≤1)(hfit:a+b.length≤32*N)(hi0:a / 32≤i)(hi:32*i<a+b.length)(hk:k≤32) :
  sp (sp D (bS N h+a) (b.take (min b.length (32*i - a)))) (bS N h+32*i) ((((sp (bB D N h) a b).drop (32*i)).take 32).take k)=sp D (bS N h+a) (b.take (min b.length (32*i+k - a))):=by
 have hNh:h*N≤1*N:=aBa _ hh;have hfr:bS N h+32*N≤D.length:=by unfold bS;omega
 have hol:=eH (D:=D) hD hh;have h32:32*i+32≤32*N:=o_;have hspl:(sp (bB D N h) a b).length=32*N:=by rw[dZ o_,hol]
 have l1:(b.take (min b.length (32*i - a))).length=min b.length (32*i - a):=by rw[aAg];omega
 have l2:(b.take (min b.length (32*i+k - a))).length=min b.length (32*i+k - a):=by rw[aAg];omega
 have l3:((((sp (bB D N h) a b).drop (32*i)).take 32).take k).length=k:=by simp only[aAg,aBd];omega
 have b1:bS N h+a+(b.take (min b.length (32*i - a))).length≤D.length:=by rw[l1];omega
 have b2:bS N h+a+(b.take (min b.length (32*i+k - a))).length≤D.length:=by rw[l2];omega
 have b3:bS N h+32*i+((((sp (bB D N h) a b).drop (32*i)).take 32).take k).length≤(sp D (bS N h+a) (b.take (min b.length (32*i - a)))).length:=by rw[l3,dZ b1];omega
 apply aCk;intro j;rw[oM b3,oM b2,oM b1,l1,l2,l3];have hX:∀p,p<32*N→(sp (bB D N h) a b)[p]?=if p<a then D[bS N h+p]? else if p<a+b.length then b[p - a]? else D[bS N h+p]?:=by
  intro p hp;rw[oM o_,qY hp]
 have hS:∀t,t<k→((((sp (bB D N h) a b).drop (32*i)).take 32).take k)[t]?=(sp (bB D N h) a b)[32*i+t]?:=by
  intro t ht;rw[iA,if_pos ht,iA,if_pos o_,aCv]
 revert hX hS;generalize (((sp (bB D N h) a b).drop (32*i)).take 32).take k=Z;generalize sp (bB D N h) a b=W;generalize bS N h=f at *;intro hX hS;by_cases j1:j<f+32*i
 ·rw[if_pos j1];by_cases j2:j<f+a
  ·rw[if_pos j2,if_pos j2]
  ·rw[if_neg j2,if_neg j2];by_cases j3:j - (f+a)<b.length
   ·rw[if_pos o_,if_pos o_,iA,iA,if_pos o_,if_pos o_]
   ·rw[if_neg o_,if_neg o_]
 ·rw[if_neg j1];by_cases j4:j<f+32*i+k
  ·rw[if_pos j4,hS _ o_,hX _ o_];have e:32*i+(j - (f+32*i))=j - f:=o_;rw[e];by_cases j2:j<f+a
   ·rw[if_pos j2,if_pos o_];congr 1;omega
   ·rw[if_neg j2,if_neg o_];by_cases j3:j - (f+a)<b.length
    ·rw[if_pos o_,if_pos o_,iA,if_pos o_];congr 1;omega
    ·rw[if_neg o_,if_neg o_];congr 1;omega
  ·rw[if_neg j4];by_cases j2:j<f+a
   ·rw[if_pos j2,if_pos j2]
   ·rw[if_neg j2,if_neg j2,if_neg o_,if_neg o_]
theorem LC{l x:List UInt8}{k:Nat}(h:Frm.kG l=some (x,k)):l.take k=Frm.fr x∧1≤x.length∧x.length≤4096:=by
 unfold Frm.kG at h;split at h
 ·rename_i ho;injection h with h;injection h with h1 h2
  obtain⟨h3,h4,h5,h6,h7⟩:=ho;have hf:=(Frm.Hf h3 h4 h6).1 h7;subst h1 h2;refine⟨hf.symm,?_,?_⟩<;>(rw[aAg,aBd];omega)
 ·cases h
def cat(ls:List (List UInt8)):List UInt8:=(ls.map Frm.fr).flatten
theorem CY(x:List UInt8)(ls:List (List UInt8)):cat (x::ls)=Frm.fr x++cat ls:=rfl
theorem vU(a b:List (List UInt8)):cat (a++b)=cat a++cat b:=by simp[cat]
theorem yP(b:List UInt8):cat [b]=Frm.fr b:=by simp[cat]
def YO(ls:List (List UInt8)):Prop:=∀x∈ls,1≤x.length∧x.length≤4096
theorem zB(l:List UInt8):l.take (Frm.upto l)=cat (Frm.cZ l)∧YO (Frm.cZ l)∧Frm.upto l≤l.length:=by
 have key:∀(k:Nat) (l:List UInt8),l.length≤k→l.take (Frm.upto l)=cat (Frm.cZ l)∧YO (Frm.cZ l)∧Frm.upto l≤l.length:=by
  intro k
  induction k with
  |zero =>
   intro l hl;have h0:l=[]:=aBi o_;subst h0;have:=Frm.gR (l:=[]) rfl;rw[this.1,this.2];exact⟨rfl,λ_ h=>(aAk h).elim,aAf _⟩
  |succ k ih =>
   intro l hl;cases hq:Frm.kG l with
   |none =>
    have:=Frm.gR hq;rw[this.1,this.2];exact⟨rfl,λ_ h=>(aAk h).elim,aAh _⟩
   |some r =>
    obtain⟨x,n⟩:=r;have hb:=Frm.lW hq;obtain⟨h1,h2,h3⟩:=LC hq;have:=Frm.kM hq;rw[this.1,this.2];obtain⟨i1,i2,i3⟩:=ih (l.drop n) (by rw[aBd];omega);rw[aBd] at i3;refine⟨by rw[aDd,h1,i1,CY],λy hy=>?_,by omega⟩;rcases aEj.1 hy with rfl|hy
    ·exact⟨h2,h3⟩
    ·exact i2 y hy
 exact key _ l (aAf _)
theorem I9(z:Nat):Frm.kG (List.replicate z 0)=none:=by
 have:=Frm.Cp (b:=[]) (k:=0) (z:=z) (by simp) (by simp);simpa using this
theorem oW{ls:List (List UInt8)}(h:YO ls)(z:Nat):Frm.cZ (cat ls++List.replicate z 0)=ls∧Frm.upto (cat ls++List.replicate z 0)=(cat ls).length:=by
 induction ls with
 |nil =>
  have:=Frm.gR (I9 z);exact⟨this.1,this.2⟩
 |cons x ls ih =>
  have hx:=h x aBo;obtain⟨i1,i2⟩:=ih λy hy=>h y (aBl _ hy);have hg:=Frm.yY (b:=x) (t:=cat ls++List.replicate z 0) hx.1 hx.2;rw[CY,aAb,(Frm.kM hg).1,(Frm.kM hg).2,aBu (Frm.bO x),i1,i2,aAe,Frm.bO];exact⟨rfl,rfl⟩
end Go.Proofs.YtmilalkjbojciaaGreat.Sep
namespace Go.Proofs.YtmilalkjbojciaaGreat.Sep
open Go.RowKit Reg
open Mem hiding Rd
theorem MD:Rec prog 259 [.pointer none,.int .i64 0] [(0,1),(1,1)]:=⟨q_,q_⟩
instance TQ:cL 259 [.pointer none,.int .i64 0] [(0,1),(1,1)]:=⟨MD⟩
theorem SZ:Rec prog 262 [.pointer none,.int .i64 0,.slice none 0 0,.int .i64 0,.int .i64 0,.slice none 0 0] [(0,2),(2,1),(3,1),(4,1),(5,1)]:=⟨q_,q_⟩
instance WS:cL 262 [.pointer none,.int .i64 0,.slice none 0 0,.int .i64 0,.int .i64 0,.slice none 0 0] [(0,2),(2,1),(3,1),(4,1),(5,1)]:=⟨SZ⟩
abbrev XZ(gd_ N:Nat):Value:=.agg #[.pointer (some ⟨gd_,0,none⟩),.int .i64 (N:Int)]
def hb(D:List UInt8):Nat:=(D.headD 0).toNat % 2
theorem vP(D:List UInt8):hb D≤1:=by unfold hb;omega
theorem ZN(x:UInt8):Go.bits .and .u8 (x.toNat:Int) 1=((x.toNat % 2:Nat):Int):=by
 have h:∀y:Fin 256,Go.bits .and .u8 (y.1:Int) 1=((y.1 % 2:Nat):Int):=by decide +kernel
 exact h ⟨x.toNat,x.toNat_lt⟩
section
variable (E:Env) (gd_ N:Nat) (aG wr:Int) (A:Option Addr) (n c:Nat) (l:List AR)
theorem Jp(hn:n≤256)(hl:0<l.length)(hnl:n=l.length):aK prog E 177 #[XZ gd_ N] (zK gd_ true false aG wr A n c l) λe H'=>e=.returned (.int .i64 ((hb (flat l):Nat):Int))∧H'=zK gd_ true false aG wr A n c l:=by
 obtain⟨x,hx⟩:∃x,l[0].1[0]?=some x:=⟨_,aAa (i:=0) (by rw[l[0].2];omega)⟩
 have hbx:hb (flat l)=x.toNat % 2:=by
  have h1:(flat l)[0]?=some x:=by
   have h2:=GB hl;rw[h2,Nat.mul_zero,aCh,iA,if_pos o_] at hx;exact hx
  unfold hb;cases hf:flat l with
  |nil=>rw[hf] at h1;cases h1
  |cons y t=>rw[hf] at h1;injection h1 with h1;rw[h1];rfl
 have ha:=ZN x;have hw:IntKind.i64.wrap ((x.toNat % 2:Nat):Int)=((x.toNat % 2:Nat):Int):=aAq _ o_;rw[hbx];refine t_ func177 ntmps177 ?_;repeat first|refine aE ?_|intro
 refine bW (λM=>r7 M gd_ true aG wr A n c l 0 hn hl hnl) ?_;rintro e H' ⟨B,d,rfl,h1,h2,rfl⟩;repeat first|refine aE ?_|intro
 exact B7
theorem Te(h:Nat)(hn:n≤256)(hnl:n=l.length)(hh:h≤1)(hN:n=2*N+1):aK prog E 222 #[XZ gd_ N,.int .i64 (h:Int)] (zK gd_ true false aG wr A n c l) λe H'=>∃O d,e=.returned (.slice O (32*N) d)∧(32*N≤d∧d≤maxLen)∧H'=own aU O (32*N) d (bB (flat l) N h)::zK gd_ true false aG wr A n c l:=by
 have hmax:=fX;obtain⟨q,hq⟩:∃q,h*N=q:=⟨_,rfl⟩
 have hqN:q≤N:=by rw[←hq];have:h*N≤1*N:=aBa _ hh;omega
 have hmul:IntKind.i64.wrap ((h:Int)*(N:Int))=(q:Int):=by rw[←hq,aAq _ (by rw[←Int.natCast_mul,hq];omega),Int.natCast_mul]
 rw[←IU,hq];refine t_ func222 ntmps222 ?_;repeat first|refine aE ?_|intro
 rename_i g2;refine C.loop (X:=Nat×Option Addr×Nat) (λx=>[(1,.int .i64 (h:Int)),(2,.pointer (some ⟨g2,0,none⟩)),(5,.slice x.2.1 (32*x.1) x.2.2),(10,.int .i64 N),(11,.int .i64 x.1)])
  (λx=>own aU x.2.1 (32*x.1) x.2.2 (flat ((l.drop (1+q)).take x.1))::aJ g2 259 [.pointer (some ⟨gd_,0,none⟩),.int .i64 (N:Int)]::zK gd_ true false aG wr A n c l) (λx=>x.1≤N∧32*x.1≤x.2.2∧x.2.2≤maxLen) (λx=>N - x.1) (0,none,0) aD (aB.nil aU) ⟨aAh _,aAh _,aAh _⟩ ?_
 rintro⟨i,O,d⟩ G ⟨hi,hd,hd2⟩;dsimp only at hi hd hd2⊢;by_cases hlt:i<N
 ·have hlen:1+q+i<l.length:=o_;have e1:IntKind.i64.wrap (IntKind.i64.wrap (1+(q:Int))+(i:Int))=((1+q+i:Nat):Int):=by rw[aAq (1+(q:Int)) o_,aAq _ o_];omega
  have e0:IntKind.i64.wrap (1+(q:Int))=1+(q:Int):=aAq _ o_;have e2:IntKind.i64.wrap (1+(q:Int)+(i:Int))=((1+q+i:Nat):Int):=by rw[e0] at e1;exact e1
  have hst:flat ((l.drop (1+q)).take (i+1))=flat ((l.drop (1+q)).take i)++l[1+q+i].1:=by
   rw[Be (by rw[aBd];omega),List.getElem_drop]
  repeat first|refine aE ?_|intro
  refine bW (λM=>r7 M gd_ true aG wr A n c l (1+q+i) hn hlen hnl) ?_;rintro e H' ⟨B,d2,rfl,h1,h2,rfl⟩;repeat first|refine aE ?_|intro
  exact⟨(i+1,_,_),aD,by dsimp only;rw[hst,show 32*(i+1)=32*i+32 by omega];exact aA,⟨by dsimp only;omega,by dsimp only;omega,by dsimp only;omega⟩,by dsimp only;omega⟩
 ·obtain rfl:i=N:=o_;repeat first|refine aE ?_|intro
  exact jQ ⟨_,_,rfl,⟨hd,hd2⟩,rfl⟩
end
end Go.Proofs.YtmilalkjbojciaaGreat.Sep
namespace Go.Proofs.YtmilalkjbojciaaGreat.Sep
open Go.RowKit Oct Dly
theorem Gi:∀k:Nat,k≤3→(decide (Go.bits .and .i64 (k:Nat) 1≠0)=decide (((k:Nat):Int) % 2=1)∧decide (Go.bits .and .i64 (k:Nat) 2≠0)=decide ((1:Int)<(k:Nat))):=by
 intro k hk
 match k,hk with
 |0,_=>decide
 |1,_=>decide
 |2,_=>decide
 |3,_=>decide
def Bl(b:List UInt8):bH:=⟨bX b 0 1,(eY ((b.drop 1).take 13)).getD zW,bX b 14 1,bX b 15 4,decide (((bX b 24 1:Nat):Int) % 2=1),decide ((1:Int)<(bX b 24 1:Nat)),bX b 19 1,bX b 20 4⟩
theorem Tj{b:List UInt8}(h:bX b 24 1≤3):tY b=Bl b:=by
 unfold tY Bl;rw[(Gi _ h).1,(Gi _ h).2]
theorem LG{b:List UInt8}(h:bX b 24 1≤3):(Bl b).mJ.toNat=bX b 24 1:=by
 unfold bH.mJ Bl;dsimp only;generalize bX b 24 1=k at *
 match k,h with
 |0,_=>rfl
 |1,_=>rfl
 |2,_=>rfl
 |3,_=>rfl
theorem Xf{b:List UInt8}:b=(b.drop 0).take 1++((b.drop 1).take 13++((b.drop 14).take 1++((b.drop 15).take 4++((b.drop 19).take 1++((b.drop 20).take 4++((b.drop 24).take 1++b.drop 25)))))):=by
 have step:∀i w,b.drop i=(b.drop i).take w++b.drop (i+w):=λi w=>by rw[←aBt,aAx]
 have h0:=step 0 1;have h1:=step 1 13;have h2:=step 14 1;have h3:=step 15 4;have h4:=step 19 1;have h5:=step 20 4;have h6:=step 24 1;rw[←h6,←h5,←h4,←h3,←h2,←h1,←h0,aCh]
theorem EU{b:List UInt8}(h:b.length=27)(h24:bX b 24 1≤3)(h25:b[25]?=some 69)(h26:b[26]?=some 69){f:cQ}(hf:eY ((b.drop 1).take 13)=some f):(Bl b).put=b:=by
 obtain⟨hfe,_⟩:=uE hf;have e1:f.put=(b.drop 1).take 13:=by rw[hfe];exact DX (by simp;omega)
 have e2:[UInt8.ofNat (bX b 24 1)]=(b.drop 24).take 1:=by rw[←nC];exact dY o_
 have e3:b.drop 25=[69,69]:=by
  obtain⟨k1,k2⟩:=aAd.1 h25;obtain⟨k3,k4⟩:=aAd.1 h26;rw[aAm k1,k2,aAm k3,k4,aCn o_]
 have e4:=Xf (b:=b);rw[e3] at e4;have e5:([UInt8.ofNat (bX b 24 1),69,69]:List UInt8)=(b.drop 24).take 1++[69,69]:=by rw[←e2];rfl
 have hfl:=LG h24;unfold bH.put;rw[hfl,e5];unfold Bl;dsimp only;rw[hf,aBe,e1];simp only[aAu];rw[dY o_,dY o_,dY o_,dY o_,dY o_];exact e4.symm
abbrev bH.front(e:bH):List UInt8:=be e.ord.toNat 1++(e.bC.put++(be e.aW.toNat 1++(be e.last.toNat 4++(be e.back.toNat 1++be e.cJ.toNat 4))))
theorem bH.FJ(e:bH):e.front.length=24:=by simp[aP,cQ.bD]
theorem bH.MU(e:bH):e.put=e.front++(be e.mJ.toNat 1++[69,69]):=by simp[bH.put,nC]
theorem bH.FM(e:bH):e.mJ.toNat≤3:=by unfold bH.mJ;split<;>split<;>decide
theorem DU(e:bH):decide (((e.mJ.toNat:Nat):Int) % 2=1)=e.cX∧decide ((1:Int)<(e.mJ.toNat:Nat))=e.gone:=by
 unfold bH.mJ;cases e.cX<;>cases e.gone<;>exact⟨rfl,rfl⟩
theorem GA(e:bH):e.put[25]?=some 69∧e.put[26]?=some 69∧bX e.put 24 1=e.mJ.toNat:=by
 have hl:=e.FJ;have hf:=e.FM;rw[e.MU];generalize e.front=x at *;refine⟨?_,?_,dL hl o_⟩
 ·rw[aBc o_,hl,nC];rfl
 ·rw[aBc o_,hl,nC];rfl
def Ea(b:List UInt8):Option bH:=if b.length=27∧bX b 24 1≤3∧b[25]?=some 69∧b[26]?=some 69∧(eY ((b.drop 1).take 13)).isSome=true∧(Bl b).may=true then some (Bl b) else none
theorem HT(b:List UInt8):EY b=Ea b:=by
 unfold Ea;by_cases hc:b.length=27∧bX b 24 1≤3∧b[25]?=some 69∧b[26]?=some 69∧(eY ((b.drop 1).take 13)).isSome=true∧(Bl b).may=true
 ·rw[if_pos hc];obtain⟨h1,h2,h3,h4,h5,h6⟩:=hc;obtain⟨f,hf⟩:=Option.isSome_iff_exists.1 h5;unfold EY;rw[Tj h2,if_pos ⟨h1,h6,EU h1 h2 h3 h4 hf⟩]
 ·rw[if_neg hc];unfold EY;refine if_neg λ⟨h1,h2,h3⟩=>hc ?_;have ht:=GA (tY b);have hf:=(tY b).FM;rw[h3] at ht;have h24:bX b 24 1≤3:=by rw[ht.2.2];exact hf
  refine⟨h1,h24,ht.1,ht.2.1,?_,by rw[←Tj h24];exact h2⟩;cases hx:eY ((b.drop 1).take 13) with
  |some f=>rfl
  |none =>
   have hk:=((bH.bY _).1 h2).2.1;have:(tY b).bC=zW:=by unfold tY;dsimp only;rw[hx];rfl
   rw[this] at hk;exact absurd hk sD
theorem Il{e:bH}(hm:e.may=true)(hn:dQ e.bC.n):Ea e.put=some e:=by
 obtain⟨⟨o0,o1⟩,hw,⟨s0,s1⟩,⟨⟨b0,b1⟩,_⟩,⟨l0,l1⟩,⟨k0,k1⟩,_⟩:=(bH.bY e).1 hm;have ht:=GA e;have hfl:=e.FM;have f0:bX e.put 0 1=e.ord.toNat:=dL (a:=[]) rfl o_;have f1:(e.put.drop 1).take 13=e.bC.put:=by
  unfold bH.put;rw[aBu (aP _ _),aBj (cQ.bD _)]
 have f2:bX e.put 14 1=e.aW.toNat:=by
  unfold bH.put;rw[←aAb];exact dL (by simp[aP,cQ.bD]) o_
 have f3:bX e.put 15 4=e.last.toNat:=by
  unfold bH.put;rw[←aAb,←aAb];exact dL (by simp[aP,cQ.bD]) o_
 have f4:bX e.put 19 1=e.back.toNat:=by
  unfold bH.put;rw[←aAb,←aAb,←aAb];exact dL (by simp[aP,cQ.bD]) o_
 have f5:bX e.put 20 4=e.cJ.toNat:=by
  unfold bH.put;rw[←aAb,←aAb,←aAb,←aAb];exact dL (by simp[aP,cQ.bD]) o_
 have hg:=Cg hw hn;have hM:Bl e.put=e:=by
  unfold Bl;rw[f0,f1,f2,f3,f4,f5,ht.2.2,hg,aBe,(DU e).1,(DU e).2];rw[aBn o_,aBn o_,aBn l0,aBn b0,aBn k0]
 unfold Ea;rw[hM,f1,hg];exact if_pos ⟨e.bD,by rw[ht.2.2];exact hfl,ht.1,ht.2.1,rfl,hm⟩
theorem HH{e:bH}(hm:e.may=true)(hn:dQ e.bC.n):EY e.put=some e:=by rw[HT,Il hm hn]
end Go.Proofs.YtmilalkjbojciaaGreat.Sep
