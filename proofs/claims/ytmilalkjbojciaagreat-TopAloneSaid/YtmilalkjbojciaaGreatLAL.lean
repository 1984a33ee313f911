/- Part AL: what it needs. No condition. -/
import Derived.Test.YtmilalkjbojciaaGreatLAA
import Derived.Test.YtmilalkjbojciaaGreatLAD
import Derived.Test.YtmilalkjbojciaaGreatLAJ
import Derived.Test.YtmilalkjbojciaaGreatLAB
import Derived.Test.YtmilalkjbojciaaGreatLAH
set_option maxRecDepth 100000
set_option maxHeartbeats 8000000
open Go.Proofs.Tryz
namespace Go.Proofs.YtmilalkjbojciaaGreat.Sep
section
open Go.RowKit Reg Oct Frm
open Mem hiding Rd
section
variable (E:Env) (A:Option Addr) (n c:Nat) (l:List UInt8)
theorem LP{H:List aL}:aB E H (own vQ none 0 0 []::aO uL []::H):=λw hw=>aB.nil vQ w (aB.kP uL w hw)
theorem Zy(hr:Rd E aU A n c l)(hl:n≤2000000) :
  aK prog E 223 #[.slice A n c] [] λe H'=>∃O co xs,e=.returned (.tuple #[.slice O xs.length co,.int .i64 (upto l)])∧H'=[own vQ O xs.length co xs,aO uL xs]∧xs.map (·.b)=cZ l:=by
 have hn:=hr.len;have hcap:=hr.cap;have hfc:=yG l;refine t_ func223 ntmps223 ?_;repeat first|refine aE ?_|intro
 refine C.loop (X:=Nat×Option Addr×Nat×List Oc) (λx=>[(0,.slice A n c),(4,.slice x.2.1 x.2.2.2.length x.2.2.1),(5,.int .i64 x.1)]) (λx=>[own vQ x.2.1 x.2.2.2.length x.2.2.1 x.2.2.2,aO uL x.2.2.2])
  (λx=>x.1≤n∧x.2.2.2.map (·.b)++cZ (l.drop x.1)=cZ l∧x.1+upto (l.drop x.1)=upto l) (λx=>n - x.1) (0,none,0,[]) aD (LP E) ⟨aAh _,rfl,by simp⟩ ?_
 rintro⟨i,O,co,xs⟩ G ⟨hi,hfs,hup⟩;dsimp only at hi hfs hup⊢;have bS:=hr.from_ (k:=i) hi;have hxm:xs.length≤(cZ l).length:=by rw[←hfs];simp
 repeat first|refine aE ?_|intro
 cases hq:kG (l.drop i) with
 |none =>
  have hz:=gR hq;rw[hz.1,aAc] at hfs;rw[hz.2,aFb] at hup;refine cl sD sK aC (λM hE=>Ka M _ (n - i) (c - i) (l.drop i) dB o_ hq) ?_;rintro e H' ⟨rfl,rfl⟩;repeat first|refine aE ?_|intro
  exact vT rfl aF aF aA (⟨_,_,_,by rw[←hup],rfl,hfs⟩)
 |some r =>
  obtain⟨x,k⟩:=r;have hb:=lW hq;have hz:=kM hq;rw[aBd] at hb;refine cl sD sK aC (λM hE=>Ha M _ (n - i) (c - i) (l.drop i) dB o_ x k hq) ?_;rintro e H' ⟨B,d,rfl,rfl⟩;repeat first|refine aE ?_|intro
  refine L.fQ sD (S.cB (T:=vQ) (e:=(⟨B,x.length,d,x⟩:Oc)) rfl rfl rfl rfl sD) ?_;rintro _ _ ⟨_,rfl,rfl⟩;repeat first|refine aE ?_|intro
  rename_i A' c' _ _;have hlen:(xs++[(⟨B,x.length,d,x⟩:Oc)]).length=xs.length+1:=by simp
  rw[hz.1] at hfs;rw[hz.2] at hup;refine⟨(i+k,A',c',xs++[(⟨B,x.length,d,x⟩:Oc)]),?_,?_,⟨by dsimp only;omega,?_,?_⟩,by dsimp only;omega⟩
  ·dsimp only;rw[hlen];exact aD
  ·dsimp only;rw[hlen];exact(aB.push (f:=uL) (x:=⟨B,x.length,d,x⟩) aC).trans aA
  ·dsimp only;rw[←hfs,aBk,aAb,←aBt];rfl
  ·dsimp only;rw[←hup,←aBt];omega
end
end
section
open Go.RowKit Reg
open Mem hiding Rd
section
variable {E:Env} {H:List aL} {α:Type} {T:Ty α} {A:Option Addr} {n c:Nat} {l:List α} {N:Nat} {F:Nat→Value} {o:Oper} {H':List aL}
def lay(l:List α)(k:Nat)(l2:List α):List α:=l.take k++l2++l.drop (k+l2.length)
theorem JY{k:Nat}{l2:List α}(h:k+l2.length≤l.length):(lay l k l2).length=l.length:=by
 unfold lay;simp only[aAe,aAg,aBd];omega
theorem KZ{F1:Nat→Prop}{u:World}{g k:Nat}{l2:List α}{cur:Array Value}(h0:(own T (some ⟨g,0,none⟩) n c l).holds F1 u)(hh:u.heap[g]?=some (.cells cur T.tid (0,0)))(hk:k+l2.length≤n)(hn0:0<n) :
  k*T.size+(T.bT l2).length≤cur.size∧F1 g∧(own T (some ⟨g,0,none⟩) n c (lay l k l2)).holds F1 (u.setRow g (cur.toList.take (k*T.size+0)++T.bT l2++cur.toList.drop (k*T.size+0+(T.bT l2).length)).toArray):=by
 have hn:=h0.1;obtain⟨m1,_,_,cur',m2,m3,m4,m5,m6⟩:=rP (g:=g) (q:=0) h0 rfl hn0;rw[hh] at m2;injection m2 with m2;injection m2 with m2 _ _
 subst m2;have hFF:∀b,F1 b↔b=g:=by
  obtain⟨_,⟨h6,_⟩|⟨g',_,h6,h7,_⟩⟩:=h0
  ·omega
  ·injection h6 with h6;injection h6 with h6;subst h6;exact h7
 have hel:(T.bT l2).length=l2.length*T.size:=T.bM l2;have hlen:(k+l2.length)*T.size≤n*T.size:=aBa _ hk;have hl2:(k+l2.length)*T.size=k*T.size+l2.length*T.size:=aDb _ _ _;have hnc:n*T.size≤c*T.size:=aBa _ m3;refine⟨by omega,m1,by rw[JY o_];exact hn,.inr ⟨g,_,rfl,hFF,setRow_heap u g _ _ _ _ hh,m3,m4,?_,?_⟩⟩
 ·simp;omega
 ·unfold lay;rw[T.iU,T.iU,←T.nX,←T.gD,←m6,aDb,←hel,aFb];have hc:cur.toList.length=c*T.size:=by rw[aDs,m5]
  simp only;rw[aEt,aEt,aEn,aEn,aFe o_,aBr o_,aAj (l:=T.bT l2) (by rw[aAg];omega),List.drop_take];congr 2;rw[aAe,aAg,aBr o_]
theorem GY{g k:Nat}(hkc:k<c):(if c=k then(some (⟨g,0,none⟩:Addr)) else(some (⟨g,0,none⟩:Addr)).map (·.add (k*T.size)))=some ⟨g,k*T.size,none⟩:=by
 rw[if_neg o_];show some ((⟨g,0,none⟩:Addr).add _)=_;rw[fB,aCa]
theorem S.QQ{x d:Operand}{t t2:TypeId}{k m nx cx:Nat}{X:Option Addr}{l2:List α}(ho:o.op=.call { callee:=.builtin .copy,args:=#[d,x],argTypes:=#[t,t2] })
  (hd:ev F d=.slice (if c=k then A else A.map (·.add (k*T.size))) m (c - k)) (hx:ev F x=.slice X nx cx) (hrd:kV E H T X nx cx l2) (hr:dT (own T A n c l) [own T A n c (lay l k l2)] H H')
  (ht:prog.underlying t=some (.slice T.tid)) (hkm:k+m≤n) (h0:0<m) (hnx:nx≤m) (hm:m≤maxLen):gK prog N E F H o λr H1=>r=.int .i64 (nx:Int)∧H1=H':=by
 intro a u ha hu Kw Q' hK;obtain⟨R,hhas,F0,h1⟩:=hu.xO hr;obtain⟨g,hA0⟩:∃g,A=some ⟨g,0,none⟩:=by
  obtain⟨_,⟨rfl,h2,_⟩|⟨g,cur,rfl,_⟩⟩:=h1
  ·omega
  ·exact⟨g,rfl⟩
 subst hA0;obtain⟨hF,_,_,cur,hh,h2,h3,h4,h5⟩:=rP (g:=g) (q:=0) h1 rfl o_;rw[GY o_] at hd;obtain⟨k0,_,_,_⟩:=hrd u hu;have hfc:=uA hrd hu;have hp:∀F1,(own T (some ⟨g,0,none⟩) n c l).holds F1 u→_:=λF1 h=>KZ (k:=k) (l2:=l2) h hh o_ o_;have hst:=run_storeCells_at prog g (k*T.size) T.tid (T.bT l2) 0 cur u hh (by have:=(hp F0 h1).1;omega) (T.kS l2);obtain⟨tu,hi,_,hsz,_⟩:=T.jA;have hmin:Nat.min nx m=nx:=aBr hnx;unfold Oper.wp;rw[ha.eval];have hw:IntKind.i64.wrap (nx:Int)=nx:=aAq _ (by unfold maxLen at hm;omega);have hrun:(execOp (ev F) o).run prog u=.ok (.value (.int .i64 (nx:Int))) (u.setRow g (cur.toList.take (k*T.size+0)++T.bT l2++cur.toList.drop (k*T.size+0+(T.bT l2).length)).toArray):=by
  simp[execOp,ho,resolve,invoke,builtin,hd,hx,Builtin.copy_,run_underlying ht,Builtin.lenOf,hmin,sizeOf,typeInfo,hi,hsz,hfc,goInt] at hst⊢;simp[hst]
 rw[hrun];exact hK _ _ _ ⟨rfl,rfl⟩ (St.setRow hu hr g _ λF1 k1=>⟨(hp F1 k1).2.1,(hp F1 k1).2.2⟩)
theorem S.M1{x:Operand}{t:TypeId}{z:α}{k m:Nat}(ho:o.op=.call { callee:=.builtin .clear,args:=#[x],argTypes:=#[t] })(hx:ev F x=.slice (if c=k then A else A.map (·.add (k*T.size))) m (c - k))
  (ht:prog.underlying t=some (.slice T.tid)) (hz:T.val z=T.zero) (hkm:k+m≤n) (h0:0<m) (hr:dT (own T A n c l) [own T A n c (lay l k (List.replicate m z))] H H'):gK prog N E F H o λr H1=>r=.tuple #[]∧H1=H':=by
 intro a u ha hu Kw Q' hK;obtain⟨R,hhas,F0,h1⟩:=hu.xO hr;obtain⟨g,hA0⟩:∃g,A=some ⟨g,0,none⟩:=by
  obtain⟨_,⟨rfl,h2,_⟩|⟨g,cur,rfl,_⟩⟩:=h1
  ·omega
  ·exact⟨g,rfl⟩
 subst hA0;obtain⟨hF,_,_,cur,hh,h2,h3,h4,h5⟩:=rP (g:=g) (q:=0) h1 rfl o_;rw[GY o_] at hx;obtain⟨ti,hi,hzz,hsz,hbt⟩:=T.jA;have hzc:Builtin.zeroCells T.zero.cells m=madeCells T.zero.cells (m*T.size):=by
  have:=T.hzero;simp[Builtin.zeroCells,madeCells,this]
 have hzl:(Builtin.zeroCells T.zero.cells m).toList=T.bT (List.replicate m z):=by rw[hzc,nN T z hz]
 have hp:∀F1,(own T (some ⟨g,0,none⟩) n c l).holds F1 u→_:=λF1 h=>KZ (k:=k) (l2:=List.replicate m z) h hh (by rw[aAz];omega) o_;have hst:=run_storeCells_at prog g (k*T.size) T.tid (T.bT (List.replicate m z)) 0 cur u hh (by have:=(hp F0 h1).1;omega) (T.kS _);unfold Oper.wp;rw[ha.eval];have hx2:(execOp (ev F) o).run prog u=.ok (.value (.tuple #[])) (u.setRow g (cur.toList.take (k*T.size+0)++T.bT (List.replicate m z)++cur.toList.drop (k*T.size+0+(T.bT (List.replicate m z)).length)).toArray):=by
  obtain⟨m,rfl⟩:∃k',m=k'+1:=⟨m - 1,by omega⟩
  unfold execOp;simp only[ho,resolve,invoke,builtin,aAy,aCc,aAr,aEb,aCi,aDo,hx];simp[Builtin.clear_,run_underlying ht,zeroValue,typeInfo,hi,hzz,hzl] at hst⊢;simp[hst]
 rw[hx2];exact hK _ _ _ ⟨rfl,rfl⟩ (St.setRow hu hr g _ λF1 k1=>⟨(hp F1 k1).2.1,(hp F1 k1).2.2⟩)
theorem V.UJ{x:Operand}{t e:TypeId}{B:Option Addr}{d:Nat}{u:World}(ho:o.op=.call { callee:=.builtin .clear,args:=#[x],argTypes:=#[t] })(hx:ev F x=.slice B 0 d)(ht:prog.underlying t=some (.slice e)):(execOp (ev F) o).run prog u=.ok (.value (.tuple #[])) u:=by
 unfold execOp;simp only[ho,resolve,invoke,builtin,aAy,aCc,aAr,aEb,aCi,aDo,hx];cases B<;>simp[Builtin.clear_,run_underlying ht]
end
theorem MD:Rec prog 259 [.pointer none,.int .i64 0] [(0,1),(1,1)]:=⟨q_,q_⟩
instance TQ:cL 259 [.pointer none,.int .i64 0] [(0,1),(1,1)]:=⟨MD⟩
theorem SZ:Rec prog 262 [.pointer none,.int .i64 0,.slice none 0 0,.int .i64 0,.int .i64 0,.slice none 0 0] [(0,2),(2,1),(3,1),(4,1),(5,1)]:=⟨q_,q_⟩
instance WS:cL 262 [.pointer none,.int .i64 0,.slice none 0 0,.int .i64 0,.int .i64 0,.slice none 0 0] [(0,2),(2,1),(3,1),(4,1),(5,1)]:=⟨SZ⟩
abbrev XZ(gd_ N:Nat):Value:=.agg #[.pointer (some ⟨gd_,0,none⟩),.int .i64 (N:Int)]
def hb(D:List UInt8):Nat:=(D.headD 0).toNat % 2
theorem vP(D:List UInt8):hb D≤1:=by unfold hb;omega
theorem ZN(x:UInt8):Go.bits .and .u8 (x.toNat:Int) 1=((x.toNat % 2:Nat):Int):=by
 have h:∀y:Fin 256,Go.bits .and .u8 (y.1:Int) 1=((y.1 % 2:Nat):Int):=by decide +kernel
 exact h ⟨x.toNat,x.toNat_lt⟩
section
variable (E:Env) (gd_ N:Nat) (aG wr:Int) (A:Option Addr) (n c:Nat) (l:List AR)
theorem Jp(hn:n≤256)(hl:0<l.length)(hnl:n=l.length):aK prog E 177 #[XZ gd_ N] (zK gd_ true false aG wr A n c l) λe H'=>e=.returned (.int .i64 ((hb (flat l):Nat):Int))∧H'=zK gd_ true false aG wr A n c l:=by
 obtain⟨x,hx⟩:∃x,l[0].1[0]?=some x:=⟨_,aAa (i:=0) (by rw[l[0].2];omega)⟩
 have hbx:hb (flat l)=x.toNat % 2:=by
  have h1:(flat l)[0]?=some x:=by
   have h2:=GB hl;rw[h2,Nat.mul_zero,aCh,iA,if_pos o_] at hx;exact hx
  unfold hb;cases hf:flat l with
  |nil=>rw[hf] at h1;cases h1
  |cons y t=>rw[hf] at h1;injection h1 with h1;rw[h1];rfl
 have ha:=ZN x;have hw:IntKind.i64.wrap ((x.toNat % 2:Nat):Int)=((x.toNat % 2:Nat):Int):=aAq _ o_;rw[hbx];refine t_ func177 ntmps177 ?_;repeat first|refine aE ?_|intro
 refine bW (λM=>r7 M gd_ true aG wr A n c l 0 hn hl hnl) ?_;rintro e H' ⟨B,d,rfl,h1,h2,rfl⟩;repeat first|refine aE ?_|intro
 exact B7
theorem Te(h:Nat)(hn:n≤256)(hnl:n=l.length)(hh:h≤1)(hN:n=2*N+1):aK prog E 222 #[XZ gd_ N,.int .i64 (h:Int)] (zK gd_ true false aG wr A n c l) λe H'=>∃O d,e=.returned (.slice O (32*N) d)∧(32*N≤d∧d≤maxLen)∧H'=own aU O (32*N) d (bB (flat l) N h)::zK gd_ true false aG wr A n c l:=by
 have hmax:=fX;obtain⟨q,hq⟩:∃q,h*N=q:=⟨_,rfl⟩
 have hqN:q≤N:=by rw[←hq];have:h*N≤1*N:=aBa _ hh;omega
 have hmul:IntKind.i64.wrap ((h:Int)*(N:Int))=(q:Int):=by rw[←hq,aAq _ (by rw[←Int.natCast_mul,hq];omega),Int.natCast_mul]
 rw[←IU,hq];refine t_ func222 ntmps222 ?_;repeat first|refine aE ?_|intro
 rename_i g2;refine C.loop (X:=Nat×Option Addr×Nat) (λx=>[(1,.int .i64 (h:Int)),(2,.pointer (some ⟨g2,0,none⟩)),(5,.slice x.2.1 (32*x.1) x.2.2),(10,.int .i64 N),(11,.int .i64 x.1)])
  (λx=>own aU x.2.1 (32*x.1) x.2.2 (flat ((l.drop (1+q)).take x.1))::aJ g2 259 [.pointer (some ⟨gd_,0,none⟩),.int .i64 (N:Int)]::zK gd_ true false aG wr A n c l) (λx=>x.1≤N∧32*x.1≤x.2.2∧x.2.2≤maxLen) (λx=>N - x.1) (0,none,0) aD (aB.nil aU) ⟨aAh _,aAh _,aAh _⟩ ?_
 rintro⟨i,O,d⟩ G ⟨hi,hd,hd2⟩;dsimp only at hi hd hd2⊢;by_cases hlt:i<N
 ·have hlen:1+q+i<l.length:=o_;have e1:IntKind.i64.wrap (IntKind.i64.wrap (1+(q:Int))+(i:Int))=((1+q+i:Nat):Int):=by rw[aAq (1+(q:Int)) o_,aAq _ o_];omega
  have e0:IntKind.i64.wrap (1+(q:Int))=1+(q:Int):=aAq _ o_;have e2:IntKind.i64.wrap (1+(q:Int)+(i:Int))=((1+q+i:Nat):Int):=by rw[e0] at e1;exact e1
  have hst:flat ((l.drop (1+q)).take (i+1))=flat ((l.drop (1+q)).take i)++l[1+q+i].1:=by
   rw[Be (by rw[aBd];omega),List.getElem_drop]
  repeat first|refine aE ?_|intro
  refine bW (λM=>r7 M gd_ true aG wr A n c l (1+q+i) hn hlen hnl) ?_;rintro e H' ⟨B,d2,rfl,h1,h2,rfl⟩;repeat first|refine aE ?_|intro
  exact⟨(i+1,_,_),aD,by dsimp only;rw[hst,show 32*(i+1)=32*i+32 by omega];exact aA,⟨by dsimp only;omega,by dsimp only;omega,by dsimp only;omega⟩,by dsimp only;omega⟩
 ·obtain rfl:i=N:=o_;repeat first|refine aE ?_|intro
  exact jQ ⟨_,_,rfl,⟨hd,hd2⟩,rfl⟩
end
section
variable (E:Env) (gd_ N:Nat) (aG wr:Int) (A:Option Addr) (n c:Nat) (l:List AR)
theorem Rj(B:Option Addr)(m d:Nat)(b:List UInt8)(i:Nat)(hm:m=32)(hb:b.length=32)(hr:Rd E aU B m d b)(hn:n≤256)(hi:i<l.length)(ha : -1≤aG)(ha2:aG≤9223372036854775807)(hw:0≤wr)(hw2:wr≤100000000000000) :
  aK prog E 233 #[.pointer (some ⟨gd_,0,none⟩),.int .i64 i,.slice B m d] (zK gd_ true false aG wr A n c l) λe H'=>e=.returned (.bool (!jD aG)) ∧
   H'=zK gd_ true (jD aG) (gX aG) (wr+wk aG) A n c (l.set i (front (wk aG) b hb (pL _) l[i])):=by
 subst hm;exact DT E gd_ true aG wr A n c l B d b i hb hr hn hi ha ha2 hw hw2
def uS(gd_ N:Nat)(aG wr:Int)(A:Option Addr)(n c:Nat)(l:List AR)(h a:Nat)(b:List UInt8):Ending→List aL→Prop:=λe H' =>
 ∃l' wr',e=.returned (.bool (!iT aG a b.length))∧l'.length=l.length∧flat l'=sp (flat l) (bS N h+a) (b.take (lq aG a b.length))∧wr≤wr'∧wr'≤wr+2048∧H'=zK gd_ true (iT aG a b.length) (fY aG a b.length) wr' A n c l'
theorem TF(h a:Nat)(B:Option Addr)(m cb:Nat)(b:List UInt8)(hr:Rd E aU B m cb b)(hn:n≤256)(hnl:n=l.length)(hh:h≤1)(hN:n=2*N+1)(hN64:N≤64)(ha : -1≤aG)(ha2:aG≤9223372036854775807)(hw:0≤wr)(hw2:wr≤90000000000000)(hfit:a+b.length≤32*N) :
  aK prog E 176 #[XZ gd_ N,.int .i64 (h:Int),.int .i64 (a:Int),.slice B m cb] (zK gd_ true false aG wr A n c l) (uS gd_ N aG wr A n c l h a b):=by
 have hmax:=fX;have hm:=hr.len;have hcb:=hr.cap;have hD:(flat l).length=32*(2*N+1):=by rw[eI];omega
 have hol:=eH (D:=flat l) hD hh;unfold uS;refine t_ func176 ntmps176 ?_;repeat first|refine aE ?_|intro
 rename_i g4;refine bW (λM=>Te M gd_ N aG wr A n c l h hn hnl hh hN) ?_;rintro e H' ⟨O,d,rfl,⟨hd1,hd2⟩,rfl⟩;refine gk bG ?_;by_cases hb0:m=0
 ·have hbn:b=[]:=aBi o_;subst hb0 hbn;have h1:iT aG a ([]:List UInt8).length=false:=by unfold iT Hc;exact decide_eq_false (by simp<;>omega)
  have h2:fY aG a ([]:List UInt8).length=aG:=by
   unfold fY Hc;rw[if_neg (by simp<;>omega)];split
   ·rename_i h;exact h.symm
   ·simp
  rw[h1,h2];repeat first|refine aE ?_|intro
  exact aR rfl aF aA (⟨l,wr,rfl,rfl,by rw[List.take_nil,aLw],aCd _,by omega,rfl⟩)
 have hab:IntKind.i64.wrap ((a:Int)+(m:Int))=((a+m:Nat):Int):=by rw[aAq _ o_];omega
 have hq32:IntKind.i64.wrap ((a:Int).tdiv 32)=((a / 32:Nat):Int):=by
  rw[show(a:Int).tdiv 32=((a / 32:Nat):Int) by rw[aFg o_];omega];exact aAq _ o_
 repeat first|refine aE ?_|intro
 refine L.fQ sD (S.QQ (T:=aU) rfl rfl rfl qF dH rfl o_ o_ o_ o_) ?_;rintro _ _ ⟨rfl,rfl⟩;rw[show Sep.lay (bB (flat l) N h) a b=sp (bB (flat l) N h) a b from rfl];obtain⟨q,hq⟩:∃q,h*N=q:=⟨_,rfl⟩
 have hqN:q≤N:=by rw[←hq];have:h*N≤1*N:=aBa _ hh;omega
 have hmul:IntKind.i64.wrap ((h:Int)*(N:Int))=(q:Int):=by rw[←hq,aAq _ (by rw[←Int.natCast_mul,hq];omega),Int.natCast_mul]
 have hfr:bS N h=32*(1+q):=by unfold bS;rw[hq]
 have hSl:(sp (bB (flat l) N h) a b).length=32*N:=by rw[dZ o_,hol]
 repeat first|refine aE ?_|intro
 refine C.loop (X:=Nat×List AR×Int×Int) (λx=>[(1,.int .i64 (h:Int)),(2,.int .i64 (a:Int)),(3,.slice B m cb),(4,.pointer (some ⟨g4,0,none⟩)),(9,.slice O (32*N) d),(10,.int .i64 x.1)])
  (λx=>own aU O (32*N) d (sp (bB (flat l) N h) a b)::aJ g4 259 [.pointer (some ⟨gd_,0,none⟩),.int .i64 (N:Int)]::zK gd_ true false x.2.2.1 x.2.2.2 A n c x.2.1)
  (λx=>a / 32≤x.1∧32*x.1<a+m+32∧x.2.1.length=l.length∧flat x.2.1=sp (flat l) (bS N h+a) (b.take (min b.length (32*x.1 - a)))∧((aG = -1∧x.2.2.1 = -1)∨(0≤x.2.2.1∧x.2.2.1=aG - 32*((x.1:Int) - (a / 32:Nat))))∧x.2.2.2=wr+32*((x.1:Int) - (a / 32:Nat)))
  (λx=>a+m+32 - 32*x.1) (a / 32,l,aG,wr) aD aA ⟨aAf _,by dsimp only;omega,rfl,by dsimp only;rw[show 32*(a / 32) - a=0 by omega,aFe (aAh _),aCg,aLw],by dsimp only;omega,by dsimp only;omega⟩ ?_
 rintro⟨i,li,Fi,wi⟩ G ⟨hi0,hi1,hli,hfl,hF,hwi⟩;dsimp only at hi0 hi1 hli hfl hF hwi⊢;have hi32:IntKind.i64.wrap ((i:Int)*32)=((32*i:Nat):Int):=by rw[aAq _ o_];omega
 by_cases hlt:32*i<a+m
 ·have hi33:IntKind.i64.wrap (((i:Int)+1)*32)=((32*i+32:Nat):Int):=by rw[aAq _ o_];omega
  have e0:IntKind.i64.wrap (1+(q:Int))=1+(q:Int):=aAq _ o_;have e2:IntKind.i64.wrap (1+(q:Int)+(i:Int))=((1+q+i:Nat):Int):=by rw[aAq _ o_];omega
  have hlen:1+q+i<li.length:=o_;have hnli:n=li.length:=o_;have h32:32*i+32≤32*N:=o_;have hsub:32*i+32 - 32*i=32:=o_;have hFi1 : -1≤Fi:=o_;have hFi2:Fi≤9223372036854775807:=o_;have hwi1:0≤wi:=o_;have hwi2:wi≤100000000000000:=o_;have hcl:(((sp (bB (flat l) N h) a b).take (32*i+32)).drop (32*i)).length=32:=by rw[aBd,aAg,hSl];omega
  have hfl2:flat (li.set (1+q+i) (front (wk Fi) _ hcl (pL _) li[1+q+i]))=sp (flat l) (bS N h+a) (b.take (min b.length (32*i+wk Fi - a))):=by
   rw[F4 hcl (pL _) hlen,hfl,List.drop_take,hsub,show 32*(1+q+i)=bS N h+32*i by rw[hfr];omega];exact R6 hD hh hfit hi0 o_ (pL _)
  have hcn:Hc a b.length=(a+b.length+31) / 32 - a / 32:=by unfold Hc;rw[if_neg o_]
  repeat first|refine aE ?_|intro
  refine rB (l_ [0,1,2,3,4,5,6,7,8,9,10,11,12,13,14,15] (g_ 16 (n_ 17 .nil))) ([own aU O (32*N) d (sp (bB (flat l) N h) a b),aJ g4 259 [.pointer (some ⟨gd_,0,none⟩),.int .i64 (N:Int)]]) ?_;repeat first|refine aE ?_|intro
  refine cg rfl sD bA sK aC (λM hE=>Rj M gd_ Fi wi A n c li _ _ _ _ (1+q+i) hsub hcl (Rd.cut (Sub.own hE aS) o_ o_) hn hlen hFi1 hFi2 hwi1 hwi2) ?_;cases hwd:jD Fi
  ·unfold jD at hwd;have hwd:=of_decide_eq_false hwd;have hk:wk Fi=32:=by unfold wk;rw[if_neg hwd]
   rintro e H' ⟨rfl,rfl⟩;repeat first|refine aE ?_|intro
   refine⟨(i+1,_,_,_),aD,aA,⟨by dsimp only;omega,by dsimp only;omega,by dsimp only;rw[aAt];exact hli,?_,?_,?_⟩,by dsimp only;omega⟩
   ·dsimp only;rw[hfl2,hk];rfl
   ·dsimp only;unfold gX;rw[if_neg hwd];split<;>omega
   ·dsimp only;rw[hk];omega
  ·unfold jD at hwd;have hwd:=of_decide_eq_true hwd;have hk:wk Fi=Fi.toNat:=by unfold wk;rw[if_pos hwd]
   have hcut:0≤aG∧aG<32*(Hc a b.length:Nat):=by rw[hcn];omega
   have h1:iT aG a b.length=true:=decide_eq_true hcut;have h2:fY aG a b.length = -1:=by unfold fY;rw[if_pos hcut]
   have h3:lq aG a b.length=min b.length (32*i+wk Fi - a):=by unfold lq;rw[if_pos hcut,hk];omega
   have h4:gX Fi = -1:=by unfold gX;rw[if_pos hwd]
   rw[h1,h2,h3,h4];rintro e H' ⟨rfl,rfl⟩;repeat first|refine aE ?_|intro
   exact aR rfl aF aA (⟨_,_,rfl,by rw[aAt];exact hli,hfl2,by rw[hk];omega,by rw[hk];omega,rfl⟩)
 ·have hcn:Hc a b.length=(a+b.length+31) / 32 - a / 32:=by unfold Hc;rw[if_neg o_]
  have hcut:¬(0≤aG∧aG<32*(Hc a b.length:Nat)):=by rw[hcn];omega
  have h1:iT aG a b.length=false:=decide_eq_false hcut;have h2:fY aG a b.length=Fi:=by unfold fY;rw[if_neg hcut,hcn];split<;>omega
  have h3:lq aG a b.length=min b.length (32*i - a):=by unfold lq;rw[if_neg hcut];omega
  rw[h1,h2,h3];repeat first|refine aE ?_|intro
  exact aR rfl aF aA (⟨li,wi,rfl,hli,hfl,by omega,by omega,rfl⟩)
end
theorem YL(x:UInt8):Go.bits .andNot .u8 (x.toNat:Int) 1=((x.toNat / 2*2:Nat):Int):=by
 have h:∀y:Fin 256,Go.bits .andNot .u8 (y.1:Int) 1=((y.1 / 2*2:Nat):Int):=by decide +kernel
 exact h ⟨x.toNat,x.toNat_lt⟩
theorem XA(x:UInt8):Go.bits .or .u8 ((x.toNat / 2*2:Nat):Int) ((1 - x.toNat % 2:Nat):Int)=((x ^^^ 1).toNat:Int):=by
 have h:∀y:Fin 256,Go.bits .or .u8 ((y.1 / 2*2:Nat):Int) ((1 - y.1 % 2:Nat):Int)=((UInt8.ofNat y.1 ^^^ 1).toNat:Int):=by decide +kernel
 have h2:=h ⟨x.toNat,x.toNat_lt⟩;rw[UInt8.ofNat_toNat] at h2;exact h2
def tx(D:List UInt8):UInt8:=D.headD 0 ^^^ 1
section
variable (E:Env) (gd_ N:Nat) (aG wr:Int) (A:Option Addr) (n c:Nat) (l:List AR)
theorem Wy(hn:n≤256)(hl:0<l.length)(hnl:n=l.length)(ha : -1≤aG)(ha2:aG≤9223372036854775807)(hw:0≤wr)(hw2:wr≤100000000000000) :
  aK prog E 262 #[XZ gd_ N,.int .i64 ((1 - hb (flat l):Nat):Int)] (zK gd_ true false aG wr A n c l) λe H'=>∃l' wr',e=.returned (.bool (!jD aG))∧l'.length=l.length∧flat l'=sp (flat l) 0 (if wk aG=0 then[] else[tx (flat l)])∧wr≤wr'∧wr'≤wr+32∧H'=zK gd_ true (jD aG) (gX aG) wr' A n c l':=by
 obtain⟨x,hx⟩:∃x,l[0].1[0]?=some x:=⟨_,aAa (i:=0) (by rw[l[0].2];omega)⟩
 have hsec:=GB hl;rw[Nat.mul_zero,aCh] at hsec;have h1:(flat l)[0]?=some x:=by
  rw[hsec,iA,if_pos o_] at hx;exact hx
 have hhd:(flat l).headD 0=x:=by
  cases hf:flat l with
  |nil=>rw[hf] at h1;cases h1
  |cons y t=>rw[hf] at h1;injection h1
 have hbx:hb (flat l)=x.toNat % 2:=by unfold hb;rw[hhd]
 have htx:tx (flat l)=x ^^^ 1:=by unfold tx;rw[hhd]
 have t1:=YL x;have t2:=XA x;have hw8:IntKind.u8.wrap ((1 - x.toNat % 2:Nat):Int)=((1 - x.toNat % 2:Nat):Int):=IntWalk.u8_in _ o_;have hb32:(l[0].1.set 0 (x ^^^ 1)).length=32:=by rw[aAt];exact l[0].2
 have hfl:flat (l.set 0 (front (wk aG) (l[0].1.set 0 (x ^^^ 1)) hb32 (pL _) l[0]))=sp (flat l) 0 (if wk aG=0 then[] else[tx (flat l)]):=by
  rw[F4 hb32 (pL _) hl,Nat.mul_zero,htx];have hll:32≤(flat l).length:=by rw[eI];omega
  have hk:=pL aG;by_cases hz:wk aG=0
  ·rw[hz,aCg,if_pos rfl]
  ·rw[if_neg hz];apply aCk;intro j;have l1:((l[0].1.set 0 (x ^^^ 1)).take (wk aG)).length=wk aG:=by rw[aAg,hb32];omega
   rw[oM (by rw[l1];omega),oM (by show 0+1≤_;omega),l1];rw[if_neg (aFk j),aDa];try rw[if_neg (aFk j)]
   by_cases hj:j=0
   ·subst hj;rw[if_pos o_,if_pos o_,iA,if_pos o_,aGh (by rw[l[0].2];omega)];rfl
   ·by_cases hj2:j<wk aG
    ·rw[if_pos o_,if_neg o_,iA,if_pos o_,Nat.sub_zero,aEq o_,hsec,iA,if_pos o_]
    ·rw[if_neg o_,if_neg o_]
 rw[hbx];refine t_ func262 ntmps262 ?_;repeat first|refine aE ?_|intro
 refine bW (λM=>r7 M gd_ true aG wr A n c l 0 hn hl hnl) ?_;rintro e H' ⟨B,d,rfl,h3,h4,rfl⟩;repeat first|refine aE ?_|intro
 refine eV (λM h1=>DT M gd_ true aG wr A n c l B d _ 0 hb32 h1 hn hl ha ha2 hw hw2) ?_;repeat first|refine aE ?_|intro
 have hk:=pL aG;exact aR rfl aF aA (⟨_,_,rfl,by rw[aAt],hfl,by omega,by omega,rfl⟩)
end
structure WL where
 N:Nat
 R:Option Addr
 m:Nat
 rc:Nat
 bF:List Oc
 kE:Nat
 pos:Nat
 P:Option Addr
 p:Nat
 pc:Nat
 cG:List UInt8
 dead:Bool
 aG:Int
 wr:Int
 A:Option Addr
 k:Nat
 c:Nat
 jM:List AR
abbrev Mk(g gd_:Nat)(w:WL):aL:=aJ g 262 [.pointer (some ⟨gd_,0,none⟩),.int .i64 (w.N:Int),.slice w.R w.m w.rc,.int .i64 (w.kE:Int),.int .i64 (w.pos:Int),.slice w.P w.p w.pc]
abbrev Es(g gd_:Nat)(w:WL):List aL:=[Mk g gd_ w,own vQ w.R w.m w.rc w.bF,aO uL w.bF,own aU w.P w.p w.pc w.cG,Cy gd_ true w.dead w.aG w.wr w.A w.k w.c,own sH w.A w.k w.c w.jM]
structure LS where
 N:Nat
 D:List UInt8
 bF:List (List UInt8)
 kE:Nat
 pos:Nat
 cG:List UInt8
 dead:Bool
 aG:Int
def WL.s(w:WL):LS:=⟨w.N,flat w.jM,w.bF.map (·.b),w.kE,w.pos,w.cG,w.dead,w.aG⟩
structure WL.ok(w:WL):Prop where
 hm:w.m=w.bF.length
 hp:w.p=w.cG.length
 hk:w.k=w.jM.length
 n0:1≤w.N
 n1:w.N≤64
 len:w.k=2*w.N+1
 a0 : -1≤w.aG
 a1:w.aG≤9223372036854775807
 w0:0≤w.wr
 fit:w.pos+w.p≤32*w.N
 bF:w.m≤100000
 kE:w.kE≤w.m
 wide:∀x∈w.bF,x.n=x.b.length∧x.b.length≤4096
section
variable (E:Env) (g gd_:Nat) (w:WL)
theorem W4:aK prog E 174 #[.pointer (some ⟨g,0,none⟩)] [Mk g gd_ w] λe H'=>e=.returned (.bool true)∧H'=[Mk g gd_ w]:=by
 refine t_ func174 ntmps174 ?_;repeat first|refine aE ?_|intro
 exact B7
theorem W6(h:w.ok):aK prog E 285 #[.pointer (some ⟨g,0,none⟩)] [Mk g gd_ w] λe H'=>e=.returned (.int .i64 ((32*w.N - w.pos - w.p:Nat):Int))∧H'=[Mk g gd_ w]:=by
 have hmax:=fX;have h1:=h.n1;have h2:=h.fit;have e1:IntKind.i64.wrap ((w.N:Int)*32)=(w.N:Int)*32:=aAq _ o_;have e2:IntKind.i64.wrap ((w.N:Int)*32 - (w.pos:Int))=(w.N:Int)*32 - (w.pos:Int):=aAq _ o_;have e3:IntKind.i64.wrap ((w.N:Int)*32 - (w.pos:Int) - (w.p:Int))=((32*w.N - w.pos - w.p:Nat):Int):=by rw[aAq _ o_];omega
 have hp:w.p≤maxLen:=o_;refine t_ func285 ntmps285 ?_;repeat first|refine aE ?_|intro
 refine bK (λM=>W4 M g gd_ w) ?_;repeat first|refine aE ?_|intro
 refine rA (l_ [0,1,2,3,4,5,6,7,8,9,10,11,12,13,14,15,16,17] .nil) ?_;repeat first|refine aE ?_|intro
 exact B7
end
def LS.append(s:LS)(b:List UInt8):Int×LS :=
 if b.length=0 then(4,s) else if 4096<b.length then(5,s) else if 32*s.N - s.pos - s.cG.length<b.length+7 then(10,s) else(0,⟨s.N,s.D,s.bF++[b],s.kE,s.pos,s.cG++Frm.fr b,s.dead,s.aG⟩)
def pA(g gd_:Nat)(w:WL)(z:Int×LS)(K:Int):Ending→List aL→Prop:=λe H' =>
 ∃w':WL,e=.returned (.int .i64 z.1)∧w'.ok∧w'.s=z.2∧w'.wr≤w.wr+K∧w'.m≤w.m+1∧H'=Es g gd_ w'
theorem gP{P:Program}{E:Env}{fn:Func}{R:Ending→List aL→Prop}{F:Nat→Value}{H H1:List aL}{e:Ex}(hc:aB E H H1)(h:gF P E fn R e F H1)(hp:∀c,e≠.panic c:=by intro c h;cases h):gF P E fn R e F H:=by
 cases e with
 |panic c=>exact absurd rfl (hp c)
 |normal=>obtain⟨v,H',h1,h2,h3⟩:=h;exact⟨v,H',λw hw=>h1 w (hc w hw),hc.trans h2,h3⟩
 |ret=>obtain⟨v,H',h1,h2,h3⟩:=h;exact⟨v,H',λw hw=>h1 w (hc w hw),hc.trans h2,h3⟩
 |exit=>exact h.elim
section
variable (E:Env) (g gd_:Nat) (w:WL)
theorem PH(h:w.ok):aK prog E 225 #[.pointer (some ⟨g,0,none⟩)] [Mk g gd_ w,own vQ w.R w.m w.rc w.bF,aO uL w.bF] λe H'=>∃O oc xs,e=.returned (.slice O w.m oc)∧xs.length=w.m∧xs.map Oc.b=w.bF.map Oc.b∧(w.m≤oc∧oc≤maxLen)∧(∀x∈xs,x.n=x.b.length∧x.b.length≤4096)∧H'=[own vQ O w.m oc xs,aO uL xs,Mk g gd_ w,own vQ w.R w.m w.rc w.bF,aO uL w.bF]:=by
 have hmax:=fX;have h1:=h.bF;have hwm:=h.hm;have hlm:w.m≤maxLen:=o_;refine t_ func225 ntmps225 ?_;repeat first|refine aE ?_|intro
 refine bK (λM=>W4 M g gd_ w) ?_;repeat first|refine aE ?_|intro
 refine C.loop (X:=Nat×Option Addr×Nat×List Oc) (λx=>[(3,.slice x.2.1 x.1 x.2.2.1),(12,.slice w.R w.m w.rc),(13,.int .i64 (w.m:Nat)),(14,.int .i64 x.1)])
  (λx=>[own vQ x.2.1 x.1 x.2.2.1 x.2.2.2,aO uL x.2.2.2,Mk g gd_ w,own vQ w.R w.m w.rc w.bF,aO uL w.bF]) (λx=>x.1≤w.m∧x.2.2.2.length=x.1∧x.2.2.2.map Oc.b=(w.bF.take x.1).map Oc.b∧(x.1≤x.2.2.1∧x.2.2.1≤maxLen)∧∀y∈x.2.2.2,y.n=y.b.length∧y.b.length≤4096) (λx=>w.m - x.1) (0,none,0,[]) aD ((aB.kP uL).trans ((aB.oR vQ none).trans aA)) ⟨aAh _,rfl,rfl,⟨aAf _,aAh _⟩,λy hy=>(aAk hy).elim⟩ ?_
 rintro⟨i,O,oc,xs⟩ F ⟨hi,hxl,hxm,hoc,hxw⟩;dsimp only at hi hxl hxm hoc hxw⊢;by_cases hlt:i<w.m
 ·obtain⟨x,hx⟩:∃x,w.bF[i]?=some x:=⟨_,aAa o_⟩
  have hst:(w.bF.take (i+1)).map Oc.b=(w.bF.take i).map Oc.b++[x.b]:=by rw[aAn o_,aBk,(aAd.1 hx).2];rfl
  have hxwd:=h.wide x (aAi hx);repeat first|refine aE ?_|intro
  refine L.fQ sD (S.KA (T:=aU) (l2:=x.b) rfl rfl rfl (n':=x.n) (aCa _) (λ_ _=>dH) (kV.aO (f:=uL) aS hx rfl) (aBq _) rfl (by_:=1) rfl nG nG) ?_;rintro _ _ ⟨A',c',⟨k1,k2⟩,rfl,rfl⟩;repeat first|refine aE ?_|intro
  refine L.fQ sD (S.cB (T:=vQ) (e:=(⟨A',x.n,c',x.b⟩:Oc)) rfl rfl rfl rfl sD) ?_;rintro _ _ ⟨_,rfl,rfl⟩;repeat first|refine aE ?_|intro
  rename_i O2 c2 k3 k4;refine⟨(i+1,O2,c2,xs++[(⟨A',x.n,c',x.b⟩:Oc)]),aD,aB.trans (aB.push (f:=uL) (l:=xs) (x:=⟨A',x.n,c',x.b⟩) aC) aA,⟨by dsimp only;omega,by dsimp only;rw[aAe,hxl];rfl,by dsimp only;rw[hst,aBk,hxm];rfl,⟨k3,k4⟩,λy hy=>?_⟩,by dsimp only;omega⟩;rcases aBg.1 hy with hy|hy
  ·exact hxw y hy
  ·rw[aAp] at hy;subst hy;exact hxwd
 obtain rfl:i=w.m:=o_;rw[aAj o_] at hxm;repeat first|refine aE ?_|intro
 exact jQ ⟨O,oc,xs,rfl,hxl,hxm,hoc,hxw,rfl⟩
theorem RK(h:w.ok)(hrl:w.m+1≤100000)(X:Option Addr)(nx cx:Nat)(b:List UInt8)(hr:Rd E aU X nx cx b) :
  aK prog E 229 #[.pointer (some ⟨g,0,none⟩),.slice X nx cx] (Es g gd_ w) (pA g gd_ w (w.s.append b) 0):=by
 have hmax:=fX;have hnx:=hr.len;have hcx:=hr.cap;have hn1':=h.n0;have hn1:=h.n1;have hfit:=h.fit;have hdur:=h.kE;have hwm:=h.hm;have hwp:=h.hp;have hplm:w.p≤maxLen:=o_;have hap:w.s.append b=if b.length=0 then(4,w.s) else if 4096<b.length then(5,w.s) else if 32*w.N - w.pos - w.cG.length<b.length+7 then(10,w.s) else(0,⟨w.N,flat w.jM,w.bF.map (·.b)++[b],w.kE,w.pos,w.cG++Frm.fr b,w.dead,w.aG⟩):=rfl
 have hsame:∀z:Int,pA g gd_ w (z,w.s) 0 (.returned (.int .i64 z)) (Es g gd_ w):=λz=>⟨w,rfl,h,rfl,by omega,by omega,rfl⟩
 rw[hap];refine t_ func229 ntmps229 ?_;repeat first|refine aE ?_|intro
 refine bK (λM=>W4 M g gd_ w) ?_;repeat first|refine aE ?_|intro
 by_cases h0:b.length=0
 ·rw[if_pos h0];obtain rfl:nx=0:=o_;refine bK (λM=>QN M X cx) ?_;repeat first|refine aE ?_|intro
  exact jQ (hsame 4)
 rw[if_neg h0];by_cases h5:4096<b.length
 ·rw[if_pos h5];refine eV (λM h1=>D5 M X nx cx b h1 (by omega)) ?_;repeat first|refine aE ?_|intro
  exact jQ (hsame 5)
 rw[if_neg h5];refine dX (λM h1=>uR M X nx cx b h1 (by omega) (by omega)) ?_;rintro e H' ⟨A1,c1,rfl,rfl⟩;refine gk bG ?_;have hn7:nx+7≤maxLen:=o_;repeat first|refine aE ?_|intro
 refine bK (λM=>W6 M g gd_ w h) ?_;rw[←hwp];by_cases hrm:32*w.N - w.pos - w.p<b.length+7
 ·rw[if_pos hrm];have ht:decide (((32*w.N - w.pos - w.p:Nat):Int)<((nx+7:Nat):Int))=true:=decide_eq_true o_;repeat first|refine aE ?_|intro
  exact jQ (hsame 10)
 rw[if_neg hrm];have ht:decide (((32*w.N - w.pos - w.p:Nat):Int)<((nx+7:Nat):Int))=false:=decide_eq_false o_;repeat first|refine aE ?_|intro
 rename_i P2 pc2 k1 k2;have hrm2:w.m≤maxLen:=o_;refine C.bL 12 (l_ [0,1,2,3,4,6] (g_ 5 (g_ 7 (g_ 8 (g_ 9 (l_ [10,11] (g_ 12 .nil))))))) ([aJ g 262 [.pointer (some ⟨gd_,0,none⟩),.int .i64 (w.N:Int),.slice w.R w.m w.rc,.int .i64 (w.kE:Int),.int .i64 (w.pos:Int),.slice P2 (w.p+(nx+7)) pc2]]) q_ q_ aA ?_;repeat first|refine aE ?_|intro
 rename_i A3 c3 k3 k4;refine Dr.Aw rfl (by rintro k ⟨⟩<;>decide) bA (S.cB (T:=vQ) (e:=(⟨A3,nx,c3,b⟩:Oc)) rfl rfl rfl rfl sD) ?_;rintro _ _ ⟨_,rfl,rfl⟩;refine⟨aA,?_⟩;repeat first|refine aE ?_|intro
 rename_i R2 rc2 k5 k6;have hwide:∀x∈w.bF++[(⟨A3,nx,c3,b⟩:Oc)],x.n=x.b.length∧x.b.length≤4096:=by
  intro x hx;rcases aBg.1 hx with hx|hx
  ·exact h.wide x hx
  ·rw[aAp] at hx;subst hx;exact⟨hnx,by dsimp only;omega⟩
 refine gP (aB.push (f:=uL) (l:=w.bF) (x:=⟨A3,nx,c3,b⟩) aC) ?_;exact aR rfl aF aA (⟨⟨w.N,R2,w.m+1,rc2,w.bF++[(⟨A3,nx,c3,b⟩:Oc)],w.kE,w.pos,P2,w.p+(nx+7),pc2,w.cG++Frm.fr b,w.dead,w.aG,w.wr,w.A,w.k,w.c,w.jM⟩,rfl,⟨by dsimp only;rw[aAe,hwm];rfl,by dsimp only;rw[aAe,Frm.bO,hwp,hnx],h.hk,hn1',hn1,h.len,h.a0,h.a1,h.w0,by dsimp only;omega,by dsimp only;omega,by dsimp only;omega,hwide⟩,by unfold WL.s;dsimp only;rw[aBk];rfl,by dsimp only;omega,by dsimp only;omega,rfl⟩)
end
def LS.new(k:Nat):LS:=⟨k,List.replicate (32*(2*k+1)) 0,[],0,0,[],false,-1⟩
theorem Iz(m:Nat):flat (List.replicate m Ek)=List.replicate (32*m) 0:=by
 induction m with
 |zero=>rfl
 |succ m ih =>
  rw[List.replicate_succ,show 32*(m+1)=32+32*m by omega,←List.replicate_append_replicate,←ih];rfl
def LS.sync(s:LS):Int×LS :=
 if s.dead=true then(19,s) else if iT s.aG s.pos s.cG.length=true then(19,⟨s.N,sp s.D (bS s.N (hb s.D)+s.pos) (s.cG.take (lq s.aG s.pos s.cG.length)),s.bF,s.kE,s.pos,s.cG,true,fY s.aG s.pos s.cG.length⟩)
 else(0,⟨s.N,sp s.D (bS s.N (hb s.D)+s.pos) s.cG,s.bF,s.bF.length,s.pos+s.cG.length,[],false,fY s.aG s.pos s.cG.length⟩)
section
variable (E:Env) (g gd_:Nat) (w:WL)
theorem XX(h:w.ok)(hwr:w.wr≤90000000000000):aK prog E 112 #[.pointer (some ⟨g,0,none⟩)] (Es g gd_ w) (pA g gd_ w w.s.sync 2048):=by
 have hmax:=fX;have hn0:=h.n0;have hn1:=h.n1;have hlen:=h.len;have hfit:=h.fit;have hdur:=h.kE;have hrecs:=h.bF;have hwm:=h.hm;have hwp:=h.hp;have hwk:=h.hk;have hn256:w.k≤256:=o_;have hl0:0<w.jM.length:=by have:=h.hk;omega
 have hfit2:w.pos+w.cG.length≤32*w.N:=by have:=h.hp;omega
 have hplm:w.p≤maxLen:=o_;have hrlm:w.m≤maxLen:=o_;have hsy:w.s.sync=if w.dead=true then(19,w.s) else if iT w.aG w.pos w.cG.length=true then(19,⟨w.N,sp (flat w.jM) (bS w.N (hb (flat w.jM))+w.pos) (w.cG.take (lq w.aG w.pos w.cG.length)),w.bF.map (·.b),w.kE,w.pos,w.cG,true,fY w.aG w.pos w.cG.length⟩)
  else(0,⟨w.N,sp (flat w.jM) (bS w.N (hb (flat w.jM))+w.pos) w.cG,w.bF.map (·.b),(w.bF.map (·.b)).length,w.pos+w.cG.length,[],false,fY w.aG w.pos w.cG.length⟩):=rfl
 rw[←h.hp,aAw,←h.hm] at hsy;rw[hsy];refine t_ func112 ntmps112 ?_;repeat first|refine aE ?_|intro
 refine bK (λM=>W4 M g gd_ w) ?_;repeat first|refine aE ?_|intro
 refine bW (λM=>CL M gd_ true w.dead w.aG w.wr w.A w.k w.c) ?_;rcases aBh w.dead with hd|hd
 ·rw[if_pos hd];have hpost:pA g gd_ w (19,w.s) 2048 (.returned (.int .i64 19)) (Es g gd_ w):=⟨w,rfl,h,rfl,by omega,by omega,rfl⟩
  rintro e H' ⟨rfl,rfl⟩;repeat first|refine aE ?_|intro
  exact jQ (hpost)
 rw[if_neg (by rw[hd];exact aAl)];rintro e H' ⟨rfl,rfl⟩;rw[hd];repeat first|refine aE ?_|intro
 refine rB (l_ [0,1,2,3,4,5,6,7,9,10,11,12,13,14,15,16] (g_ 8 (g_ 17 (l_ [18,19] .nil)))) ([Mk g gd_ w]) ?_;repeat first|refine aE ?_|intro
 refine eJ (λM=>Jp M gd_ w.N w.aG w.wr w.A w.k w.c w.jM hn256 hl0 hwk) ?_;repeat first|refine aE ?_|intro
 refine cg rfl sD bA sK aC (λM hE=>TF M gd_ w.N w.aG w.wr w.A w.k w.c w.jM (hb (flat w.jM)) w.pos w.P w.p w.pc w.cG (Sub.own hE aS) hn256 hwk (vP _) hlen hn1 h.a0 h.a1 h.w0 hwr hfit2) ?_;unfold uS;rw[←hwp];rintro e H' ⟨l',wr',rfl,hl',hfl',hw1,hw2,rfl⟩;refine gd bG aA ?_;have hge:=rU h.a0 w.pos w.p;have hle:fY w.aG w.pos w.p≤9223372036854775807:=by have:=h.a1;unfold fY;split;omega;split<;>omega
 rcases aBh (iT w.aG w.pos w.p) with hc|hc
 ·rw[if_pos hc,hc];repeat first|refine aE ?_|intro
  exact aR rfl aF aA (⟨⟨w.N,w.R,w.m,w.rc,w.bF,w.kE,w.pos,w.P,w.p,w.pc,w.cG,true,fY w.aG w.pos w.p,wr',w.A,w.k,w.c,l'⟩,rfl,⟨hwm,hwp,hwk.trans hl'.symm,hn0,hn1,hlen,hge,hle,by have:=h.w0;dsimp only;omega,hfit,hrecs,hdur,h.wide⟩,by unfold WL.s;dsimp only;rw[hfl'],hw2,by dsimp only;omega,rfl⟩)
 ·rw[if_neg (by rw[hc];exact aAl),hc];have hq:=zV hc;rw[hq,aAj o_] at hfl';have hpl:IntKind.i64.wrap ((w.pos:Int)+(w.p:Int))=((w.pos+w.p:Nat):Int):=by rw[aAq _ o_];omega
  repeat first|refine aE ?_|intro
  refine C.bL 12 (l_ [0,1,2,3,4,5,6,7,8,9,10,11] (g_ 12 .nil)) _ q_ q_ aB.refl ?_;repeat first|refine aE ?_|intro
  refine gP (aB.oR aU none) ?_;exact aR rfl aF aA (⟨⟨w.N,w.R,w.m,w.rc,w.bF,w.m,w.pos+w.p,none,0,0,[],false,fY w.aG w.pos w.p,wr',w.A,w.k,w.c,l'⟩,rfl,⟨hwm,rfl,hwk.trans hl'.symm,hn0,hn1,hlen,hge,hle,by have:=h.w0;dsimp only;omega,by show w.pos+w.p+0≤_;omega,hrecs,aAf _,h.wide⟩,by unfold WL.s;dsimp only;rw[hfl'],hw2,by dsimp only;omega,rfl⟩)
end
def nQ(X:List UInt8)(p:Nat):Nat→Nat
 |0=>0
 |k+1=>if p<k+1∧X[k]?=some 0 then nQ X p k else k+1
theorem Kr(X:List UInt8)(p k:Nat):nQ X p k≤k:=by
 induction k with
 |zero=>exact aAf _
 |succ k ih=>unfold nQ;split<;>omega
theorem Jv{X:List UInt8}{p k:Nat}(h:p≤k):p≤nQ X p k:=by
 induction k with
 |zero=>unfold nQ;omega
 |succ k ih =>
  unfold nQ;split
  ·exact ih o_
  ·exact h
def pU(D:List UInt8)(N:Nat):Nat:=nQ (bB D N (hb D)) (Frm.upto (bB D N (hb D))) (32*N) - Frm.upto (bB D N (hb D))
def LS.open(N:Nat)(D:List UInt8)(F:Int):LS :=
 ⟨N,sp D (bS N (hb D)+Frm.upto (bB D N (hb D))) (List.replicate (pU D N) 0),Frm.cZ (bB D N (hb D)),(Frm.cZ (bB D N (hb D))).length,Frm.upto (bB D N (hb D)),[],false,fY F (Frm.upto (bB D N (hb D))) (pU D N)⟩
theorem ME{a:aL}{H H':List aL}(h:dT a [a] H H'):H'=H:=by
 induction h with
 |aN=>rfl
 |aM _ ih=>rw[ih]
theorem SJ{α:Type}(l:List α)(k:Nat):Sep.lay l k []=l:=by unfold Sep.lay;simp
theorem S.NA{E:Env}{H:List aL}{α:Type}{T:Ty α}{A:Option Addr}{n c:Nat}{l:List α}{N:Nat}{F:Nat→Value}{o:Oper}{H':List aL}{x:Operand}{t:TypeId}{z:α}{k m:Nat}(ho:o.op=.call { callee:=.builtin .clear,args:=#[x],argTypes:=#[t] })(hx:ev F x=.slice (if c=k then A else A.map (·.add (k*T.size))) m (c - k))
  (ht:prog.underlying t=some (.slice T.tid)) (hz:T.val z=T.zero) (hkm:k+m≤n) (hr:dT (own T A n c l) [own T A n c (Sep.lay l k (List.replicate m z))] H H'):gK prog N E F H o λr H1=>r=.tuple #[]∧H1=H':=by
 by_cases h0:m=0
 ·subst h0;rw[List.replicate_zero,SJ] at hr;rw[ME hr];intro a u ha hu Kw Q' hK;unfold Oper.wp;rw[ha.eval,V.UJ ho hx ht];exact hK _ _ _ ⟨rfl,rfl⟩ hu
 ·exact S.M1 ho hx ht hz hkm o_ hr
section
variable (E:Env) (gd_ N:Nat) (aG wr:Int) (A:Option Addr) (n c:Nat) (l:List AR)
theorem Xu(hnl:n=l.length)(hN:n=2*N+1)(hN0:1≤N)(hN1:N≤64)(ha : -1≤aG)(ha2:aG≤9223372036854775807)(hw:0≤wr)(hwr:wr≤90000000000000)(hcut:iT aG (Frm.upto (bB (flat l) N (hb (flat l)))) (pU (flat l) N)=false) :
  aK prog E 167 #[.pointer (some ⟨gd_,0,none⟩)] (zK gd_ true false aG wr A n c l) λe H'=>∃(g:Nat) (w:WL),e=.returned (.tuple #[.pointer (some ⟨g,0,none⟩),.bool true])∧w.ok∧w.s=LS.open N (flat l) aG∧w.wr≤wr+2048∧w.m≤4*N∧H'=Es g gd_ w:=by
 have hmax:=fX;have hn:n≤256:=o_;have hl0:0<l.length:=o_;have hD:(flat l).length=32*(2*N+1):=by rw[eI];omega
 unfold LS.open;obtain⟨h,hh⟩:∃h,hb (flat l)=h:=⟨_,rfl⟩
 have hh1:h≤1:=by rw[←hh];exact vP _
 have hot:pU (flat l) N=nQ (bB (flat l) N h) (Frm.upto (bB (flat l) N h)) (32*N) - Frm.upto (bB (flat l) N h):=by unfold pU;rw[hh]
 have hXl:=eH (D:=flat l) hD hh1;rw[hh] at hcut⊢;obtain⟨X,hX⟩:∃X,bB (flat l) N h=X:=⟨_,rfl⟩
 rw[hX] at hcut hot hXl⊢;have hff:=zB X;have hfc:=Frm.yG X;obtain⟨p,hp⟩:∃p,Frm.upto X=p:=⟨_,rfl⟩
 rw[hp] at hcut hot hff⊢;obtain⟨e0,he0⟩:∃e,nQ X p (32*N)=e:=⟨_,rfl⟩
 rw[he0] at hot;rw[hot] at hcut⊢;have hpe:p≤e0:=by rw[←he0];exact Jv (by have:=hff.2.2;omega)
 have heN:e0≤32*N:=by rw[←he0];exact Kr _ _ _
 have hrem:(n:Int).tmod 2=1:=by rw[Int.tmod_eq_emod_of_nonneg o_];omega
 have hquo:IntKind.i64.wrap ((n:Int).tdiv 2)=(N:Int):=by rw[aFg o_,aAq _ o_];omega
 refine t_ func167 ntmps167 ?_;repeat first|refine aE ?_|intro
 refine bK (λM=>SG M gd_ true false aG wr A n c hn) ?_;repeat first|refine aE ?_|intro
 refine bK (λM=>CL M gd_ true false aG wr A n c) ?_;repeat first|refine aE ?_|intro
 rename_i g5;refine rB (l_ [0,1,2,3,4,5,6,7] (g_ 8 (g_ 9 (n_ 10 .nil)))) ([aJ g5 262 [.pointer (some ⟨gd_,0,none⟩),.int .i64 (N:Int),.slice none 0 0,.int .i64 0,.int .i64 0,.slice none 0 0]]) ?_;repeat first|refine aE ?_|intro
 refine iO (λM=>Jp M gd_ N aG wr A n c l hn hl0 hnl) ?_;rw[hh];rintro e H' ⟨rfl,rfl⟩;repeat first|refine aE ?_|intro
 refine iO (λM=>Te M gd_ N aG wr A n c l h hn hnl hh1 hN) ?_;rw[hX];rintro e H' ⟨O,d,rfl,⟨hd1,hd2⟩,rfl⟩;repeat first|refine aE ?_|intro
 refine dX (λM h1=>Zy M O (32*N) d X h1 (by omega)) ?_;rw[hp];rintro e H' ⟨O2,co,xs,rfl,rfl,hxs⟩;refine gk bG ?_;have hxl:xs.length=(Frm.cZ X).length:=by rw[←hxs,aAw]
 have hxm:xs.length≤maxLen:=o_;refine L.fact (p:=∀x∈xs,x.n=x.b.length) (λw hw x hx=>?_) λhwide=>?_
 ·obtain⟨i,hi,rfl⟩:=aBm hx;exact((kV.aO (f:=uL) aS (aAa hi) rfl) w hw).1
 repeat ((fail_if_success (refine C.seq (x:=Code.region 8 _ _) ?_));first|refine Cx ?_|refine He ?_|intro _|refine Dr.two ?_ ?_)
 refine C.cut (X:=Unit) (λ_=>[(5,.pointer (some ⟨g5,0,none⟩)),(6,.slice O (32*N) d),(7,.int .i64 ((32*N:Nat):Int))]) (λ_=>[own aU O (32*N) d X,aJ g5 262 [.pointer (some ⟨gd_,0,none⟩),.int .i64 (N:Int),.slice O2 xs.length co,.int .i64 (xs.length:Int),.int .i64 (p:Int),.slice none 0 0],own vQ O2 xs.length co xs,aO uL xs,Cy gd_ true false aG wr A n c,own sH A n c l]) (λ_=>True) ?_ ?_
 ·repeat first|refine aE ?_|intro
  exact⟨(),aD,aA,trivial⟩
 rintro - F0 -;refine C.cut (X:=Unit) (λ_=>[(5,.pointer (some ⟨g5,0,none⟩)),(6,.slice O (32*N) d),(7,.int .i64 e0)]) (λ_=>[own aU O (32*N) d X,aJ g5 262 [.pointer (some ⟨gd_,0,none⟩),.int .i64 (N:Int),.slice O2 xs.length co,.int .i64 (xs.length:Int),.int .i64 (p:Int),.slice none 0 0],own vQ O2 xs.length co xs,aO uL xs,Cy gd_ true false aG wr A n c,own sH A n c l]) (λ_=>True) ?_ ?_
 ·repeat first|refine aE ?_|intro
  refine C.loop (X:=Nat) (λk=>[(5,.pointer (some ⟨g5,0,none⟩)),(6,.slice O (32*N) d),(7,.int .i64 k)])
   (λ_=>[own aU O (32*N) d X,aJ g5 262 [.pointer (some ⟨gd_,0,none⟩),.int .i64 (N:Int),.slice O2 xs.length co,.int .i64 (xs.length:Int),.int .i64 (p:Int),.slice none 0 0],own vQ O2 xs.length co xs,aO uL xs,Cy gd_ true false aG wr A n c,own sH A n c l])
   (λk=>p≤k∧k≤32*N∧nQ X p k=e0) (λk=>k) (32*N) aD aA ⟨by have:=hff.2.2;omega,aAf _,he0⟩ ?_
  rintro k F ⟨hk0,hk1,hk2⟩;by_cases hlt:p<k
  ·obtain⟨k',rfl⟩:∃k',k=k'+1:=⟨k - 1,by omega⟩
   obtain⟨x,hx⟩:∃x,X[k']?=some x:=⟨_,aAa o_⟩
   have hsub:IntKind.i64.wrap (((k'+1:Nat):Int) - 1)=(k':Int):=by rw[aAq _ o_];omega
   by_cases hz:x=0
   ·have ht:decide ((x.toNat:Int)=0)=true:=by rw[hz];rfl
    have hte:nQ X p k'=e0:=by rw[←hk2];conv=>rhs;unfold nQ;rw[if_pos ⟨hlt,by rw[hx,hz]⟩]
    repeat first|refine aE ?_|intro
    exact⟨k',aD,aA,⟨by omega,by omega,hte⟩,by omega⟩
   ·have hx0:x.toNat≠0:=λh=>hz (by rw[←aEg,h];rfl);have ht:decide ((x.toNat:Int)=0)=false:=decide_eq_false o_;have hte:k'+1=e0:=by
     rw[←hk2];unfold nQ;rw[if_neg (λh=>hz (by have:=h.2;rw[hx] at this;exact aDk this))]
    subst hte;repeat first|refine aE ?_|intro
    exact⟨(),aD,aA,trivial⟩
  obtain rfl:k=p:=o_;have hte:k=e0:=by
   rw[←hk2];cases k with
   |zero=>rfl
   |succ k=>unfold nQ;rw[if_neg (λh=>absurd h.1 (Nat.lt_irrefl _))]
  subst hte;repeat first|refine aE ?_|intro
  exact⟨(),aD,aA,trivial⟩
 rintro - F -;have hmx:max ((e0:Nat):Int) ((p:Nat):Int)=((e0:Nat):Int):=o_;repeat first|refine aE ?_|intro
 refine rA (l_ [0,1,2,3,4,5,6,7,8,9,10,11,12] .nil) ?_;repeat ((fail_if_success (refine Dr.all (i:=11) ?_));first|refine w_ ?_|refine He ?_|intro _)
 rw[hmx];repeat first|refine aE ?_|intro
 have hcont:(((Sep.lay X p (List.replicate (e0 - p) 0)).take e0).drop p)=List.replicate (e0 - p) 0:=by
  unfold Sep.lay;have h1:(X.take p).length=p:=by rw[aAg];omega
  have h2:(X.take p++List.replicate (e0 - p) (0:UInt8)).length=e0:=by rw[aAe,h1,aAz];omega
  rw[aBj h2,aBu h1]
 refine L.pX (S.NA (T:=aU) (A:=O) (n:=32*N) (c:=d) (l:=X) (z:=0) (k:=p) (m:=e0 - p) rfl rfl rfl rfl o_ dH) ?_;rintro _ _ ⟨rfl,rfl⟩;repeat first|refine aE ?_|intro
 refine rB (l_ [0,1,2,3,4,5,6,7,9,10,11,12,13] (g_ 8 (g_ 14 (n_ 15 .nil)))) ([aJ g5 262 [.pointer (some ⟨gd_,0,none⟩),.int .i64 (N:Int),.slice O2 xs.length co,.int .i64 (xs.length:Int),.int .i64 (p:Int),.slice none 0 0]]) ?_;repeat first|refine aE ?_|intro
 refine iO (λM=>Jp M gd_ N aG wr A n c l hn hl0 hnl) ?_;rw[hh];rintro e H' ⟨rfl,rfl⟩;repeat first|refine aE ?_|intro
 have hpl:p+(((Sep.lay X p (List.replicate (e0 - p) 0)).take e0).drop p).length≤32*N:=by rw[hcont,aAz];omega
 refine cg rfl sD bA sK aC (λM hE=>TF M gd_ N aG wr A n c l h p (if d=p then O else O.map (·.add (p*aU.size))) (e0 - p) (d - p) (((Sep.lay X p (List.replicate (e0 - p) 0)).take e0).drop p) (Rd.cut (Sub.own (n:=32*N) hE aS) hpe heN) hn hnl hh1 hN hN1 ha ha2 hw hwr hpl) ?_;unfold uS;rw[hcont,aAz,hcut,zV hcut,aAj (by rw[aAz];exact aAf _)];rintro e H' ⟨l',wr',rfl,hl',hfl',hw1,hw2,rfl⟩;repeat first|refine aE ?_|intro
 have hge:=rU ha p (e0 - p);have hle:fY aG p (e0 - p)≤9223372036854775807:=by unfold fY;split;omega;split<;>omega
 have hWH:Es g5 gd_ ⟨N,O2,xs.length,co,xs,xs.length,p,none,0,0,[],false,fY aG p (e0 - p),wr',A,n,c,l'⟩=[aJ g5 262 [.pointer (some ⟨gd_,0,none⟩),.int .i64 (N:Int),.slice O2 xs.length co,.int .i64 (xs.length:Int),.int .i64 (p:Int),.slice none 0 0],own vQ O2 xs.length co xs,aO uL xs,own aU none 0 0 [],Cy gd_ true false (fY aG p (e0 - p)) wr' A n c,own sH A n c l']:=rfl;refine gP (aB.oR aU none) ?_;refine gP (H1:=Es g5 gd_ ⟨N,O2,xs.length,co,xs,xs.length,p,none,0,0,[],false,fY aG p (e0 - p),wr',A,n,c,l'⟩) (by rw[hWH];exact aA) ?_;have hok:∀x∈xs,x.n=x.b.length∧x.b.length≤4096:=λx hx=>⟨hwide x hx,(hff.2.1 x.b (by rw[←hxs];exact aFi hx)).2⟩
 exact vT rfl aF aF aA (⟨g5,_,rfl,⟨rfl,rfl,hnl.trans hl'.symm,hN0,hN1,hN,hge,hle,by dsimp only;omega,by dsimp only[List.length_nil];omega,by dsimp only;omega,aAf _,hok⟩,by unfold WL.s;dsimp only;rw[hfl',hxs,hxl],by dsimp only;omega,by dsimp only;omega,rfl⟩)
end
theorem Jz{D x:List UInt8}{o:Nat}(ho:1≤o)(hD:o+x.length≤D.length):(sp D o x).headD 0=D.headD 0:=by
 have h:=oM hD 0;rw[if_pos o_] at h;cases hs:sp D o x with
 |nil=>have:=dZ hD;rw[hs] at this;simp at this;omega
 |cons y t =>
  cases hd:D with
  |nil=>rw[hd] at hD;simp at hD;omega
  |cons z u=>rw[hs,hd] at h;injection h
theorem AY{D x:List UInt8}{o:Nat}(ho:1≤o)(hD:o+x.length≤D.length):hb (sp D o x)=hb D:=by unfold hb;rw[Jz ho hD]
theorem Tv{D x:List UInt8}{o:Nat}(ho:1≤o)(hD:o+x.length≤D.length):tx (sp D o x)=tx D:=by unfold tx;rw[Jz ho hD]
abbrev tB(s:LS):List UInt8:=sp s.D (bS s.N (1 - hb s.D)+0) ((List.replicate (32*s.N) 0).take (lq s.aG 0 (32*s.N)))
abbrev rT(s:LS):Int:=fY s.aG 0 (32*s.N)
abbrev rL(s:LS)(b:List UInt8):List UInt8:=sp (tB s) (bS s.N (1 - hb s.D)+0) ((Frm.fr b).take (lq (rT s) 0 (b.length+7)))
abbrev yA(s:LS)(b:List UInt8):Int:=fY (rT s) 0 (b.length+7)
abbrev nM(s:LS)(b:List UInt8):List UInt8:=sp (rL s b) 0 (if wk (yA s b)=0 then[] else[tx s.D])
def LS.swap(s:LS)(b:List UInt8):Int×LS :=
 if b.length=0 then(4,s) else if 4096<b.length then(5,s) else if 32*s.N<b.length+7 then(10,s) else if s.dead=true then(19,s)
 else if iT s.aG 0 (32*s.N)=true then(19,⟨s.N,tB s,s.bF,s.kE,s.pos,s.cG,true,rT s⟩)
 else if iT (rT s) 0 (b.length+7)=true then(19,⟨s.N,rL s b,s.bF,s.kE,s.pos,s.cG,true,yA s b⟩)
 else if jD (yA s b)=true then(19,⟨s.N,nM s b,s.bF,s.kE,s.pos,s.cG,true,gX (yA s b)⟩)
 else(0,⟨s.N,nM s b,[b],1,b.length+7,[],false,gX (yA s b)⟩)
section
variable (E:Env) (g gd_:Nat) (w:WL)
theorem S5(N:Nat)(aG wr:Int)(A:Option Addr)(n c:Nat)(l:List AR)(h:Nat)(hh:h=1 - hb (flat l))(hn:n≤256)(hl:0<l.length)(hnl:n=l.length)(ha : -1≤aG)(ha2:aG≤9223372036854775807)(hw:0≤wr)(hw2:wr≤100000000000000) :
  aK prog E 262 #[XZ gd_ N,.int .i64 (h:Int)] (zK gd_ true false aG wr A n c l) λe H'=>∃l' wr',e=.returned (.bool (!jD aG))∧l'.length=l.length∧flat l'=sp (flat l) 0 (if wk aG=0 then[] else[tx (flat l)])∧wr≤wr'∧wr'≤wr+32∧H'=zK gd_ true (jD aG) (gX aG) wr' A n c l':=by
 subst hh;exact Wy E gd_ N aG wr A n c l hn hl hnl ha ha2 hw hw2
theorem zD{F:Int}(h:F≤9223372036854775807)(a len:Nat):fY F a len≤9223372036854775807:=by unfold fY;split;omega;split<;>omega
theorem D1{F:Int}(h0 : -1≤F)(h1:F≤9223372036854775807) : -1≤gX F∧gX F≤9223372036854775807:=by unfold gX;split;omega;split<;>omega
theorem W5(h:w.ok)(hwr:w.wr≤89000000000000)(X:Option Addr)(nx cx:Nat)(b:List UInt8)(hr:Rd E aU X nx cx b) :
  aK prog E 192 #[.pointer (some ⟨g,0,none⟩),.slice X nx cx] (Es g gd_ w) (pA g gd_ w (w.s.swap b) 4128):=by
 have hmax:=fX;have hnx:=hr.len;have hcx:=hr.cap;have hn0:=h.n0;have hn1:=h.n1;have hlen:=h.len;have hwk:=h.hk;have hfit:=h.fit;have hn256:w.k≤256:=o_;have hl0:0<w.jM.length:=o_;have hD:(flat w.jM).length=32*(2*w.N+1):=by rw[eI];omega
 have hsame:∀z:Int,pA g gd_ w (z,w.s) 4128 (.returned (.int .i64 z)) (Es g gd_ w):=λz=>⟨w,rfl,h,rfl,by omega,by omega,rfl⟩
 unfold LS.swap;have esN:w.s.N=w.N:=rfl;have esd:w.s.dead=w.dead:=rfl;rw[esN,esd];have eN:IntKind.i64.wrap ((w.N:Int)*32)=((32*w.N:Nat):Int):=by rw[aAq _ o_];omega
 refine t_ func192 ntmps192 ?_;repeat first|refine aE ?_|intro
 refine bK (λM=>W4 M g gd_ w) ?_;repeat first|refine aE ?_|intro
 by_cases h0:b.length=0
 ·rw[if_pos h0];obtain rfl:nx=0:=o_;refine bK (λM=>QN M X cx) ?_;repeat first|refine aE ?_|intro
  exact jQ (hsame 4)
 rw[if_neg h0];by_cases h5:4096<b.length
 ·rw[if_pos h5];refine eV (λM h1=>D5 M X nx cx b h1 (by omega)) ?_;repeat first|refine aE ?_|intro
  exact jQ (hsame 5)
 rw[if_neg h5];refine dX (λM h1=>uR M X nx cx b h1 (by omega) (by omega)) ?_;rintro e H' ⟨A1,c1,rfl,rfl⟩;refine gk bG ?_;have hn7:nx+7≤maxLen:=o_;by_cases hrm:32*w.N<b.length+7
 ·rw[if_pos hrm];have ht:decide (((32*w.N:Nat):Int)<((nx+7:Nat):Int))=true:=decide_eq_true o_;repeat first|refine aE ?_|intro
  exact jQ (hsame 10)
 rw[if_neg hrm];have ht:decide (((32*w.N:Nat):Int)<((nx+7:Nat):Int))=false:=decide_eq_false o_;repeat first|refine aE ?_|intro
 refine bW (λM=>CL M gd_ true w.dead w.aG w.wr w.A w.k w.c) ?_;rcases aBh w.dead with hd|hd
 ·rw[if_pos hd];rintro e H' ⟨rfl,rfl⟩;repeat first|refine aE ?_|intro
  exact jQ (hsame 19)
 rw[if_neg (by rw[hd];exact aAl)];rintro e H' ⟨rfl,rfl⟩;rw[hd];repeat first|refine aE ?_|intro
 refine bK (λM=>Jp M gd_ w.N w.aG w.wr w.A w.k w.c w.jM hn256 hl0 hwk) ?_;have hbl:=vP (flat w.jM);obtain⟨q,hq⟩:∃q,1 - hb (flat w.jM)=q:=⟨_,rfl⟩
 have hq1:q≤1:=o_;have hsub:IntKind.i64.wrap (1 - ((hb (flat w.jM):Nat):Int))=(q:Int):=by rw[aAq _ o_];omega
 have hfo:32≤bS w.N q∧bS w.N q+32*w.N≤32*(2*w.N+1):=by
  unfold bS;have:q*w.N≤1*w.N:=aBa _ hq1;omega
 repeat first|refine aE ?_|intro
 refine rB (l_ [0,1,2,3,4,5,6,7,8,9,10] (g_ 11 (g_ 12 (l_ [13,14,15,16,17,18,19,20] (g_ 21 (l_ [22,23,24,25,26,27,28,29] (g_ 30 (l_ [31,32] .nil)))))))) ([Mk g gd_ w]) ?_;repeat first|refine aE ?_|intro
 rename_i gz;have hoz:List.replicate (32*w.N) Ey=List.replicate (32*w.N) (0:UInt8):=rfl;have hzl:(List.replicate (32*w.N) (0:UInt8)).length=32*w.N:=aAz;have hz:0+(List.replicate (32*w.N) Ey).length≤32*w.N:=by rw[aAz];omega
 have hwr1:w.wr≤90000000000000:=o_;refine cg rfl sD bA sK aC (λM hE=>TF M gd_ w.N w.aG w.wr w.A w.k w.c w.jM q 0 (some ⟨gz,0,none⟩) (32*w.N) (32*w.N) (List.replicate (32*w.N) Ey) (Sub.own hE aS) hn256 hwk hq1 hlen hn1 h.a0 h.a1 h.w0 hwr1 hz) ?_;unfold uS;rw[hoz,hzl];have eD1:tB w.s=sp (flat w.jM) (bS w.N q+0) ((List.replicate (32*w.N) 0).take (lq w.aG 0 (32*w.N))):=by rw[←hq];rfl
 have eF1:rT w.s=fY w.aG 0 (32*w.N):=rfl;have eA:w.s.aG=w.aG:=rfl;have hF1a:=rU h.a0 0 (32*w.N);have hF1b:=zD h.a1 0 (32*w.N);rintro e H' ⟨l1,wr1,rfl,hl1,hfl1,hv1,hv2,rfl⟩;refine gd bG aA ?_;rw[←eD1] at hfl1;rw[eA];rcases aBh (iT w.aG 0 (32*w.N)) with hc|hc
 ·rw[if_pos hc,hc];repeat first|refine aE ?_|intro
  exact aR rfl aF aA (⟨⟨w.N,w.R,w.m,w.rc,w.bF,w.kE,w.pos,w.P,w.p,w.pc,w.cG,true,fY w.aG 0 (32*w.N),wr1,w.A,w.k,w.c,l1⟩,rfl,⟨h.hm,h.hp,hwk.trans hl1.symm,hn0,hn1,hlen,hF1a,hF1b,by have:=h.w0;dsimp only;omega,hfit,h.bF,h.kE,h.wide⟩,by rw[eF1];unfold WL.s;dsimp only;rw[hfl1];rfl,by dsimp only;omega,by dsimp only;omega,rfl⟩)
 rw[if_neg (by rw[hc];exact aAl),hc];rw[eF1];have eF2:yA w.s b=fY (fY w.aG 0 (32*w.N)) 0 (b.length+7):=rfl;have eD2:rL w.s b=sp (flat l1) (bS w.N q+0) ((Frm.fr b).take (lq (fY w.aG 0 (32*w.N)) 0 (b.length+7))):=by rw[hfl1,←hq];rfl
 have hhb1:hb (flat l1)=hb (flat w.jM):=by
  rw[hfl1,eD1];exact AY o_ (by rw[hD,aAg,aAz];omega)
 have htx1:tx (flat l1)=tx (flat w.jM):=by
  rw[hfl1,eD1];exact Tv o_ (by rw[hD,aAg,aAz];omega)
 have hv0:0≤wr1:=by have:=h.w0;omega
 generalize fY w.aG 0 (32*w.N)=F1 at *;rw[eF2];have hD1:(flat l1).length=32*(2*w.N+1):=by rw[eI];omega
 have hz2:0+(Frm.fr b).length≤32*w.N:=by rw[Frm.bO];omega
 have hwr2:wr1≤90000000000000:=o_;have hl1n:w.k=l1.length:=o_;repeat first|refine aE ?_|intro
 refine cg rfl sD bA sK aC (λM hE=>TF M gd_ w.N F1 wr1 w.A w.k w.c l1 q 0 A1 (nx+7) c1 (Frm.fr b) (Sub.own hE aS) hn256 hl1n hq1 hlen hn1 hF1a hF1b hv0 hwr2 hz2) ?_;unfold uS;rw[Frm.bO];have hF2a:=rU hF1a 0 (b.length+7);have hF2b:=zD hF1b 0 (b.length+7);rintro e H' ⟨l2,wr2,rfl,hl2,hfl2,hv3,hv4,rfl⟩;refine gd bG aA ?_;rw[←eD2] at hfl2;rcases aBh (iT F1 0 (b.length+7)) with hc2|hc2
 ·rw[if_pos hc2,hc2];repeat first|refine aE ?_|intro
  exact aR rfl aF aA (⟨⟨w.N,w.R,w.m,w.rc,w.bF,w.kE,w.pos,w.P,w.p,w.pc,w.cG,true,fY F1 0 (b.length+7),wr2,w.A,w.k,w.c,l2⟩,rfl,⟨h.hm,h.hp,by dsimp only;omega,hn0,hn1,hlen,hF2a,hF2b,by dsimp only;omega,hfit,h.bF,h.kE,h.wide⟩,by unfold WL.s;dsimp only;rw[hfl2];rfl,by dsimp only;omega,by dsimp only;omega,rfl⟩)
 rw[if_neg (by rw[hc2];exact aAl),hc2];have hhb2:q=1 - hb (flat l2):=by
  rw[hfl2,eD2,AY o_ (by rw[hD1,aAg,Frm.bO];omega),hhb1];exact hq.symm
 have htx2:tx (flat l2)=tx (flat w.jM):=by
  rw[hfl2,eD2,Tv o_ (by rw[hD1,aAg,Frm.bO];omega),htx1]
 generalize fY F1 0 (b.length+7)=F2 at *;have eD3:nM w.s b=sp (flat l2) 0 (if wk F2=0 then[] else[tx (flat l2)]):=by rw[htx2,hfl2];unfold nM;rw[eF2];rfl
 have hv5:0≤wr2:=o_;have hwr3:wr2≤100000000000000:=o_;have hl2n:w.k=l2.length:=o_;have hl20:0<l2.length:=o_;repeat first|refine aE ?_|intro
 refine iO (λM=>S5 M gd_ w.N F2 wr2 w.A w.k w.c l2 q hhb2 hn256 hl20 hl2n hF2a hF2b hv5 hwr3) ?_;have hF3:=D1 hF2a hF2b;rintro e H' ⟨l3,wr3,rfl,hl3,hfl3,hv6,hv7,rfl⟩;refine gd bG aA ?_;rw[←eD3] at hfl3;rcases aBh (jD F2) with hc3|hc3
 ·rw[if_pos hc3,hc3];repeat first|refine aE ?_|intro
  exact aR rfl aF aA (⟨⟨w.N,w.R,w.m,w.rc,w.bF,w.kE,w.pos,w.P,w.p,w.pc,w.cG,true,gX F2,wr3,w.A,w.k,w.c,l3⟩,rfl,⟨h.hm,h.hp,by dsimp only;omega,hn0,hn1,hlen,hF3.1,hF3.2,by dsimp only;omega,hfit,h.bF,h.kE,h.wide⟩,by unfold WL.s;dsimp only;rw[hfl3];rfl,by dsimp only;omega,by dsimp only;omega,rfl⟩)
 rw[if_neg (by rw[hc3];exact aAl),hc3];repeat first|refine aE ?_|intro
 rename_i A4 c4 k1 k2;refine L.fQ sD (S.cB (T:=vQ) (e:=(⟨A4,nx,c4,b⟩:Oc)) rfl rfl rfl rfl sD) ?_;rintro _ _ ⟨_,rfl,rfl⟩;repeat first|refine aE ?_|intro
 rename_i g6;refine gP (aB.oR aU none) ?_;refine gP (aB.kP uL) ?_;refine gP (aB.push (f:=uL) (l:=[]) (x:=⟨A4,nx,c4,b⟩) aC) ?_;have hWH:Es g gd_ ⟨w.N,some ⟨g6,0,none⟩,1,1,[(⟨A4,nx,c4,b⟩:Oc)],1,nx+7,none,0,0,[],false,gX F2,wr3,w.A,w.k,w.c,l3⟩=[aJ g 262 [.pointer (some ⟨gd_,0,none⟩),.int .i64 (w.N:Int),.slice (some ⟨g6,0,none⟩) 1 1,.int .i64 1,.int .i64 ((nx+7:Nat):Int),.slice none 0 0],own vQ (some ⟨g6,0,none⟩) 1 1 [(⟨A4,nx,c4,b⟩:Oc)],aO uL ([]++[(⟨A4,nx,c4,b⟩:Oc)]),own aU none 0 0 [],Cy gd_ true false (gX F2) wr3 w.A w.k w.c,own sH w.A w.k w.c l3]:=rfl;refine gP (H1:=Es g gd_ ⟨w.N,some ⟨g6,0,none⟩,1,1,[(⟨A4,nx,c4,b⟩:Oc)],1,nx+7,none,0,0,[],false,gX F2,wr3,w.A,w.k,w.c,l3⟩) (by rw[hWH];exact aA) ?_;have hwide:∀x∈[(⟨A4,nx,c4,b⟩:Oc)],x.n=x.b.length∧x.b.length≤4096:=by
  intro x hx;rw[aAp] at hx;subst hx;exact⟨hnx,by dsimp only;omega⟩
 exact aR rfl aF aA (⟨⟨w.N,some ⟨g6,0,none⟩,1,1,[(⟨A4,nx,c4,b⟩:Oc)],1,nx+7,none,0,0,[],false,gX F2,wr3,w.A,w.k,w.c,l3⟩,rfl,⟨rfl,rfl,by dsimp only;omega,hn0,hn1,hlen,hF3.1,hF3.2,by dsimp only;omega,by dsimp only[List.length_nil];omega,by dsimp only[List.length_cons,List.length_nil];omega,aAf _,hwide⟩,by unfold WL.s;dsimp only;rw[hfl3,hnx];rfl,by dsimp only;omega,by dsimp only;omega,rfl⟩)
end
end
section
theorem mR{N h:Nat}(hh:h≤1):32≤bS N h∧bS N h+32*N≤32*(2*N+1):=by
 unfold bS;have:h*N≤1*N:=aBa _ hh;omega
theorem rD{D x:List UInt8}{N h a:Nat}(hD:D.length=32*(2*N+1))(hh:h≤1)(ha:a+x.length≤32*N):bB (sp D (bS N h+a) x) N h=sp (bB D N h) a x:=by
 have hf:=mR (N:=N) hh;have hl:=eH hD hh;have h1:bS N h+a+x.length≤D.length:=o_;have h2:a+x.length≤(bB D N h).length:=o_;have hl2:=eH (D:=sp D (bS N h+a) x) (by rw[dZ h1];exact hD) hh;apply aCk;intro j;by_cases hj:j<32*N
 ·rw[qY hj,oM h1,oM h2,qY hj];by_cases j1:j<a
  ·rw[if_pos o_,if_pos j1]
  ·rw[if_neg o_,if_neg j1];by_cases j2:j<a+x.length
   ·rw[if_pos o_,if_pos j2];congr 1;omega
   ·rw[if_neg o_,if_neg j2]
 ·rw[aCo o_,aCo (by rw[dZ h2];omega)]
theorem lQ{D x:List UInt8}{N h o:Nat}(hD:D.length=32*(2*N+1))(hh:h≤1)(ho:o+x.length≤D.length)(haway:o+x.length≤bS N h∨bS N h+32*N≤o):bB (sp D o x) N h=bB D N h:=by
 have hf:=mR (N:=N) hh;have hl:=eH hD hh;have hl2:=eH (D:=sp D o x) (by rw[dZ ho];exact hD) hh;apply aCk;intro j;by_cases hj:j<32*N
 ·rw[qY hj,oM ho,qY hj];by_cases j1:bS N h+j<o
  ·rw[if_pos j1]
  ·rw[if_neg j1,if_neg o_]
 ·rw[aCo o_,aCo o_]
theorem CT{c x:List UInt8}{z:Nat}(_h:x.length≤z):sp (c++List.replicate z 0) c.length x=c++x++List.replicate (z - x.length) 0:=by
 unfold sp;rw[aBj rfl,aGj,aCn o_,aBq,show c.length+x.length - c.length=x.length by omega,List.drop_replicate]
structure Inv(s:LS):Prop where
 len:s.D.length=32*(2*s.N+1)
 n0:1≤s.N
 n1:s.N≤64
 Ly:YO s.bF
 kE:s.kE≤s.bF.length
 pos:s.pos=(cat (s.bF.take s.kE)).length
 cG:s.cG=cat (s.bF.drop s.kE)
 half:bB s.D s.N (hb s.D)=cat (s.bF.take s.kE)++List.replicate (32*s.N - s.pos) 0
 fit:s.pos+s.cG.length≤32*s.N
theorem BD{s:LS}(_:Inv s):cat s.bF=cat (s.bF.take s.kE)++cat (s.bF.drop s.kE):=by rw[←vU,aAx]
theorem Nu(k:Nat):hb (List.replicate k 0)=0:=by
 unfold hb;cases k<;>rfl
theorem Inv.new{k:Nat}(h0:1≤k)(h1:k≤64):Inv (LS.new k):=by
 unfold LS.new;refine⟨aAz,h0,h1,λ_ h=>(aAk h).elim,aAf _,rfl,rfl,?_,aAh _⟩;show bB (List.replicate (32*(2*k+1)) 0) k _=[]++List.replicate (32*k - 0) 0;rw[Nu];unfold bB bS;rw[List.drop_replicate,List.take_replicate,aBq];congr 1;omega
theorem tI{s:LS}{b:List UInt8}:(s.append b).2=s∨((s.append b).1=0∧1≤b.length∧b.length≤4096∧s.pos+s.cG.length+(b.length+7)≤32*s.N+(s.pos+s.cG.length - 32*s.N)∧(s.append b).2=⟨s.N,s.D,s.bF++[b],s.kE,s.pos,s.cG++Frm.fr b,s.dead,s.aG⟩):=by
 unfold LS.append;by_cases h1:b.length=0
 ·rw[if_pos h1];exact .inl rfl
 rw[if_neg h1];by_cases h2:4096<b.length
 ·rw[if_pos h2];exact .inl rfl
 rw[if_neg h2];by_cases h3:32*s.N - s.pos - s.cG.length<b.length+7
 ·rw[if_pos h3];exact .inl rfl
 rw[if_neg h3];exact .inr ⟨rfl,by omega,by omega,by omega,rfl⟩
theorem Inv.append{s:LS}(h:Inv s)(b:List UInt8):Inv (s.append b).2:=by
 rcases tI (s:=s) (b:=b) with h1|⟨_,h1,h2,h3,h4⟩
 ·rw[h1];exact h
 ·rw[h4];have hf:=h.fit;have hd:=h.kE;have ht:(s.bF++[b]).take s.kE=s.bF.take s.kE:=aCw hd;refine⟨h.len,h.n0,h.n1,λx hx=>?_,by dsimp only;rw[aAe];omega,by dsimp only;rw[ht];exact h.pos,?_,by dsimp only;rw[ht];exact h.half,by dsimp only;rw[aAe,Frm.bO];omega⟩
  ·rcases aBg.1 hx with hx|hx
   ·exact h.Ly x hx
   ·rw[aAp] at hx;subst hx;exact⟨h1,h2⟩
  ·dsimp only;rw[aFa hd,vU,yP,h.cG]
theorem ND(a len:Nat):iT (-1) a len=false:=by unfold iT;exact decide_eq_false o_
theorem Lq(a len:Nat):fY (-1) a len = -1:=by unfold fY;rw[if_neg o_,if_pos rfl]
theorem Kd{s:LS}(hd:s.dead=false)(hc:iT s.aG s.pos s.cG.length=false):s.sync=(0,⟨s.N,sp s.D (bS s.N (hb s.D)+s.pos) s.cG,s.bF,s.bF.length,s.pos+s.cG.length,[],false,fY s.aG s.pos s.cG.length⟩):=by
 unfold LS.sync;rw[if_neg (by rw[hd];exact aAl),if_neg (by rw[hc];exact aAl)]
theorem F7{s:LS}(hd:s.dead=false)(hc:iT s.aG s.pos s.cG.length=true):s.sync=(19,⟨s.N,sp s.D (bS s.N (hb s.D)+s.pos) (s.cG.take (lq s.aG s.pos s.cG.length)),s.bF,s.kE,s.pos,s.cG,true,fY s.aG s.pos s.cG.length⟩):=by
 unfold LS.sync;rw[if_neg (by rw[hd];exact aAl),if_pos hc]
theorem laid{s:LS}(h:Inv s)(q:Nat)(hq:q≤s.cG.length):hb (sp s.D (bS s.N (hb s.D)+s.pos) (s.cG.take q))=hb s.D∧(sp s.D (bS s.N (hb s.D)+s.pos) (s.cG.take q)).length=32*(2*s.N+1) ∧
  bB (sp s.D (bS s.N (hb s.D)+s.pos) (s.cG.take q)) s.N (hb s.D)=(cat s.bF).take (s.pos+q)++List.replicate (32*s.N - (s.pos+q)) 0:=by
 have hf:=mR (N:=s.N) (vP s.D);have hfit:=h.fit;have hlen:=h.len;have hql:(s.cG.take q).length=q:=by rw[aAg];omega
 have hin:bS s.N (hb s.D)+s.pos+(s.cG.take q).length≤s.D.length:=o_;refine⟨AY o_ hin,by rw[dZ hin];exact hlen,?_⟩;rw[rD hlen (vP _) o_,h.half];have hp:=h.pos
 conv=>lhs;rw[show sp (cat (s.bF.take s.kE)++List.replicate (32*s.N - s.pos) 0) s.pos (s.cG.take q)=sp (cat (s.bF.take s.kE)++List.replicate (32*s.N - s.pos) 0) (cat (s.bF.take s.kE)).length (s.cG.take q) by rw[←hp]]
 rw[CT o_,hql,BD h,aEt,aAj (l:=cat (s.bF.take s.kE)) (i:=s.pos+q) o_,h.cG,←hp,show s.pos+q - s.pos=q by omega,show 32*s.N - s.pos - q=32*s.N - (s.pos+q) by omega]
theorem vO(v:List (List UInt8)){i j:Nat}(h:i≤j):(cat (v.take i)).length≤(cat (v.take j)).length:=by
 have:v.take i=(v.take j).take i:=by rw[aEn,aBr h]
 rw[this];have h2:v.take j=(v.take j).take i++(v.take j).drop i:=(aAx _ _).symm
 conv=>rhs;rw[h2,vU,aAe]
 omega
theorem found{s:LS}(h:Inv s)(q:Nat)(hq:q≤s.cG.length):∃k,s.kE≤k∧k≤s.bF.length∧(q=s.cG.length→k=s.bF.length)∧Frm.cZ ((cat s.bF).take (s.pos+q)++List.replicate (32*s.N - (s.pos+q)) 0)=s.bF.take k:=by
 have hcl:(cat s.bF).length=s.pos+s.cG.length:=by rw[BD h,aAe,←h.pos,←h.cG]
 obtain⟨k,h1,h2,h3,h4⟩:=Frm.I8 s.bF h.Ly (s.pos+q) (32*s.N - (s.pos+q)) (by show _≤(cat s.bF).length;omega);change (cat (s.bF.take k)).length≤_ at h3;change k<s.bF.length→_<(cat (s.bF.take (k+1))).length at h4;refine⟨k,?_,h1,λhqq=>?_,h2⟩
 ·by_cases hk:k<s.kE
  ·have hd:=h.kE;have h5:=h4 o_;have h6:=vO s.bF (show k+1≤s.kE by omega);have h7:=h.pos;omega
  ·omega
 ·by_cases hk:k<s.bF.length
  ·have h5:=h4 hk;have h6:=vO s.bF (show k+1≤s.bF.length by omega);rw[aAo] at h6;omega
  ·omega
theorem Ja{c:List UInt8}{z:Nat}:nQ (c++List.replicate z 0) c.length (c.length+z)=c.length:=by
 induction z with
 |zero =>
  cases hc:c.length with
  |zero=>rfl
  |succ k=>unfold nQ;rw[if_neg (λh=>absurd h.1 o_)]
 |succ z ih =>
  have hstep:∀k,k≤c.length+z→nQ (c++List.replicate (z+1) 0) c.length k=nQ (c++List.replicate z 0) c.length k:=by
   intro k
   induction k with
   |zero=>intro _;rfl
   |succ k ihk =>
    intro hk;unfold nQ;have:(c++List.replicate (z+1) (0:UInt8))[k]?=(c++List.replicate z 0)[k]?:=by
     by_cases h:k<c.length
     ·rw[aBp h,aBp h]
     ·rw[aBc o_,aBc o_,aDc,aDc,if_pos o_,if_pos o_]
    rw[this,ihk o_]
  show nQ _ _ ((c.length+z)+1)=_;unfold nQ;rw[if_pos ⟨by omega,by rw[aBc o_,aDc,if_pos o_]⟩,hstep _ (aAf _)];exact ih
theorem CD{s:LS}(h:Inv s)(F:Int):pU s.D s.N=0∧Frm.upto (bB s.D s.N (hb s.D))=s.pos∧Frm.cZ (bB s.D s.N (hb s.D))=s.bF.take s.kE∧LS.open s.N s.D F=⟨s.N,s.D,s.bF.take s.kE,s.kE,s.pos,[],false,fY F s.pos 0⟩:=by
 have hox:YO (s.bF.take s.kE):=λx hx=>h.Ly x (aBs hx);have hfc:=oW hox (32*s.N - s.pos);have hfit:=h.fit;rw[←h.half] at hfc;have hup:Frm.upto (bB s.D s.N (hb s.D))=s.pos:=by rw[hfc.2,h.pos]
 have hot:pU s.D s.N=0:=by
  unfold pU;rw[hup];have ht:=Ja (c:=cat (s.bF.take s.kE)) (z:=32*s.N - s.pos);rw[←h.half,←h.pos,show s.pos+(32*s.N - s.pos)=32*s.N by omega] at ht;rw[ht,aEi]
 refine⟨hot,hup,hfc.1,?_⟩;unfold LS.open;rw[hot,hup,hfc.1,List.replicate_zero,aLw,aAg,aBr h.kE]
end
section
open Go.RowKit Reg
open Mem hiding Rd
theorem LO(F:Int)(a:Nat):iT F a 0=false:=by unfold iT Hc;rw[if_pos rfl];exact decide_eq_false o_
theorem Inv.synced{s:LS}(h:Inv s)(F:Int):Inv ⟨s.N,sp s.D (bS s.N (hb s.D)+s.pos) s.cG,s.bF,s.bF.length,s.pos+s.cG.length,[],false,F⟩:=by
 obtain⟨h1,h2,h3⟩:=laid h s.cG.length (aAf _);rw[aAo] at h1 h2 h3;have hcl:(cat s.bF).length=s.pos+s.cG.length:=by rw[BD h,aAe,←h.pos,←h.cG]
 refine⟨h2,h.n0,h.n1,h.Ly,aAf _,by dsimp only;rw[aAo];exact hcl.symm,by dsimp only;rw[aCy];rfl,?_,by dsimp only[List.length_nil];exact h.fit⟩;dsimp only;rw[h1,h3,aAj o_,aAo]
theorem Ga{s:LS}(hd:s.dead=false):∃(z:Int) (q:Nat) (du po:Nat) (pe:List UInt8) (de:Bool) (F:Int),s.sync=(z,⟨s.N,sp s.D (bS s.N (hb s.D)+s.pos) (s.cG.take q),s.bF,du,po,pe,de,F⟩)∧q≤s.cG.length∧(z=0∨z=19)∧(z=0→q=s.cG.length∧du=s.bF.length)∧(z=19→du=s.kE∧s.cG≠[]):=by
 cases hc:iT s.aG s.pos s.cG.length
 ·rw[Kd hd hc];exact⟨0,s.cG.length,_,_,_,_,_,by rw[aAo],aAf _,.inl rfl,λ_=>⟨rfl,rfl⟩,λh=>absurd h sD⟩
 ·rw[F7 hd hc];refine⟨19,lq s.aG s.pos s.cG.length,_,_,_,_,_,rfl,Wz _ _ _,.inr rfl,λh=>absurd h sD,λ_=>⟨rfl,λhp=>?_⟩⟩;rw[hp,aDh,LO] at hc;cases hc
theorem Gr(x:UInt8):(x ^^^ 1).toNat % 2=1 - x.toNat % 2:=by
 have h:∀y:Fin 256,(UInt8.ofNat y.1 ^^^ 1).toNat % 2=1 - y.1 % 2:=by decide +kernel
 have h2:=h ⟨x.toNat,x.toNat_lt⟩;rw[UInt8.ofNat_toNat] at h2;exact h2
theorem Dp{D:List UInt8}{x:UInt8}:hb (sp D 0 [x])=x.toNat % 2:=by
 unfold hb sp;rw[aCg];rfl
theorem JS{s:LS}(h:Inv s)(hd:s.dead=false)(b:List UInt8):(s.swap b).2.N=s.N∧(s.swap b).2.D.length=s.D.length ∧
  ((Frm.cZ (bB (s.swap b).2.D s.N (hb (s.swap b).2.D))=s.bF.take s.kE∧(s.swap b).1≠0)∨(Frm.cZ (bB (s.swap b).2.D s.N (hb (s.swap b).2.D))=[b]∧((s.swap b).1=0∨(s.swap b).1=19))):=by
 have hl:=h.len;have hold:∀D':List UInt8,hb D'=hb s.D→bB D' s.N (hb s.D)=bB s.D s.N (hb s.D)→Frm.cZ (bB D' s.N (hb D'))=s.bF.take s.kE:=by
  intro D' h1 h2;rw[h1,h2,h.half];exact(oW (λx hx=>h.Ly x (aBs hx)) _).1
 have hsame:Frm.cZ (bB s.D s.N (hb s.D))=s.bF.take s.kE:=hold s.D rfl rfl;unfold LS.swap;by_cases c1:b.length=0
 ·rw[if_pos c1];exact⟨rfl,rfl,.inl ⟨hsame,by dsimp only;omega⟩⟩
 rw[if_neg c1];by_cases c2:4096<b.length
 ·rw[if_pos c2];exact⟨rfl,rfl,.inl ⟨hsame,by dsimp only;omega⟩⟩
 rw[if_neg c2];by_cases c3:32*s.N<b.length+7
 ·rw[if_pos c3];exact⟨rfl,rfl,.inl ⟨hsame,by dsimp only;omega⟩⟩
 rw[if_neg c3,if_neg (by rw[hd];exact aAl)];have hbl:=vP s.D;have hq1:1 - hb s.D≤1:=o_;have hf:=mR (N:=s.N) hq1;have hfh:=mR (N:=s.N) hbl;have haway:bS s.N (1 - hb s.D)+32*s.N≤bS s.N (hb s.D)∨bS s.N (hb s.D)+32*s.N≤bS s.N (1 - hb s.D):=by
  have:hb s.D=0∨hb s.D=1:=o_;rcases this with e|e<;>rw[e]<;>unfold bS<;>omega
 have z1:((List.replicate (32*s.N) (0:UInt8)).take (lq s.aG 0 (32*s.N))).length≤32*s.N:=by rw[aAg,aAz];omega
 have in1:bS s.N (1 - hb s.D)+0+((List.replicate (32*s.N) (0:UInt8)).take (lq s.aG 0 (32*s.N))).length≤s.D.length:=o_;have len1:(tB s).length=s.D.length:=dZ in1;have hb1:hb (tB s)=hb s.D:=AY o_ in1;have half1:bB (tB s) s.N (hb s.D)=bB s.D s.N (hb s.D):=lQ hl hbl in1 o_;by_cases k1:iT s.aG 0 (32*s.N)=true
 ·rw[if_pos k1];exact⟨rfl,len1,.inl ⟨hold _ hb1 half1,by dsimp only;omega⟩⟩
 rw[if_neg k1];have l2:((Frm.fr b).take (lq (rT s) 0 (b.length+7))).length≤b.length+7:=by rw[aAg,Frm.bO];omega
 have in2:bS s.N (1 - hb s.D)+0+((Frm.fr b).take (lq (rT s) 0 (b.length+7))).length≤(tB s).length:=o_;have len2:(rL s b).length=s.D.length:=by rw[←len1];exact dZ in2
 have hb2:hb (rL s b)=hb s.D:=by rw[←hb1];exact AY o_ in2
 have half2:bB (rL s b) s.N (hb s.D)=bB s.D s.N (hb s.D):=by rw[←half1];exact lQ o_ hbl in2 o_
 by_cases k2:iT (rT s) 0 (b.length+7)=true
 ·rw[if_pos k2];exact⟨rfl,len2,.inl ⟨hold _ hb2 half2,by dsimp only;omega⟩⟩
 rw[if_neg k2];by_cases kz:wk (yA s b)=0
 ·have hdd:jD (yA s b)=true:=by
   unfold wk at kz;unfold jD;split at kz
   ·rename_i hh;exact decide_eq_true hh
   ·omega
  have hD3:nM s b=rL s b:=by unfold nM;rw[if_pos kz,aLw]
  rw[if_pos hdd,hD3];exact⟨rfl,len2,.inl ⟨hold _ hb2 half2,by dsimp only;omega⟩⟩
 ·have hD3:nM s b=sp (rL s b) 0 [tx s.D]:=by unfold nM;rw[if_neg kz]
  have in3:0+[tx s.D].length≤(rL s b).length:=by show 0+1≤_;omega
  have hb3:hb (nM s b)=1 - hb s.D:=by
   rw[hD3,Dp];exact Gr _
  have aNg:(nM s b).length=s.D.length:=by rw[hD3,←len2];exact dZ in3
  have half3:bB (nM s b) s.N (1 - hb s.D)=Frm.fr b++List.replicate (32*s.N - (b.length+7)) 0:=by
   rw[hD3,lQ o_ hq1 in3 (.inl (by show 0+1≤_;omega))];have e2:lq (rT s) 0 (b.length+7)=b.length+7:=zV (by cases hh:iT (rT s) 0 (b.length+7);rfl;exact absurd hh k2);have e1:lq s.aG 0 (32*s.N)=32*s.N:=zV (by cases hh:iT s.aG 0 (32*s.N);rfl;exact absurd hh k1);have f2:(Frm.fr b).take (lq (rT s) 0 (b.length+7))=Frm.fr b:=by rw[e2];exact aAj (by rw[Frm.bO];exact aAf _)
   have f1:(List.replicate (32*s.N) (0:UInt8)).take (lq s.aG 0 (32*s.N))=List.replicate (32*s.N) 0:=by rw[e1];exact aAj (by rw[aAz];exact aAf _)
   have g2:bB (rL s b) s.N (1 - hb s.D)=sp (bB (tB s) s.N (1 - hb s.D)) 0 (Frm.fr b):=by
    unfold rL;rw[f2];exact rD o_ hq1 (by rw[Frm.bO];omega)
   have g1:bB (tB s) s.N (1 - hb s.D)=sp (bB s.D s.N (1 - hb s.D)) 0 (List.replicate (32*s.N) 0):=by
    unfold tB;rw[f1];exact rD hl hq1 (by rw[aAz];omega)
   have g0:sp (bB s.D s.N (1 - hb s.D)) 0 (List.replicate (32*s.N) 0)=List.replicate (32*s.N) 0:=by
    unfold sp;rw[aCg,aBq,aCn (by rw[eH hl hq1,aAz];omega),aAc]
   rw[g2,g1,g0];have g3:=CT (c:=[]) (x:=Frm.fr b) (z:=32*s.N) (by rw[Frm.bO];omega);rw[aBq,aBq,aDh,Frm.bO] at g3;exact g3
  have hfound:Frm.cZ (bB (nM s b) s.N (hb (nM s b)))=[b]:=by
   rw[hb3,half3];have g4:=(oW (ls:=[b]) (λx hx=>by rw[aAp] at hx;subst hx;exact⟨by omega,by omega⟩) (32*s.N - (b.length+7))).1;rw[yP] at g4;exact g4
  by_cases k3:jD (yA s b)=true
  ·rw[if_pos k3];exact⟨rfl,aNg,.inr ⟨hfound,.inr rfl⟩⟩
  ·rw[if_neg k3];exact⟨rfl,aNg,.inr ⟨hfound,.inl rfl⟩⟩
theorem Inv.swap{s:LS}(h:Inv s)(hd:s.dead=false)(b:List UInt8):(s.swap b).1=0→Inv (s.swap b).2:=by
 have hl:=h.len;have hold:∀D':List UInt8,hb D'=hb s.D→bB D' s.N (hb s.D)=bB s.D s.N (hb s.D)→Frm.cZ (bB D' s.N (hb D'))=s.bF.take s.kE:=by
  intro D' h1 h2;rw[h1,h2,h.half];exact(oW (λx hx=>h.Ly x (aBs hx)) _).1
 have hsame:Frm.cZ (bB s.D s.N (hb s.D))=s.bF.take s.kE:=hold s.D rfl rfl;unfold LS.swap;by_cases c1:b.length=0
 ·rw[if_pos c1];exact λh0=>absurd h0 (by dsimp only;omega)
 rw[if_neg c1];by_cases c2:4096<b.length
 ·rw[if_pos c2];exact λh0=>absurd h0 (by dsimp only;omega)
 rw[if_neg c2];by_cases c3:32*s.N<b.length+7
 ·rw[if_pos c3];exact λh0=>absurd h0 (by dsimp only;omega)
 rw[if_neg c3,if_neg (by rw[hd];exact aAl)];have hbl:=vP s.D;have hq1:1 - hb s.D≤1:=o_;have hf:=mR (N:=s.N) hq1;have hfh:=mR (N:=s.N) hbl;have haway:bS s.N (1 - hb s.D)+32*s.N≤bS s.N (hb s.D)∨bS s.N (hb s.D)+32*s.N≤bS s.N (1 - hb s.D):=by
  have:hb s.D=0∨hb s.D=1:=o_;rcases this with e|e<;>rw[e]<;>unfold bS<;>omega
 have z1:((List.replicate (32*s.N) (0:UInt8)).take (lq s.aG 0 (32*s.N))).length≤32*s.N:=by rw[aAg,aAz];omega
 have in1:bS s.N (1 - hb s.D)+0+((List.replicate (32*s.N) (0:UInt8)).take (lq s.aG 0 (32*s.N))).length≤s.D.length:=o_;have len1:(tB s).length=s.D.length:=dZ in1;have hb1:hb (tB s)=hb s.D:=AY o_ in1;have half1:bB (tB s) s.N (hb s.D)=bB s.D s.N (hb s.D):=lQ hl hbl in1 o_;by_cases k1:iT s.aG 0 (32*s.N)=true
 ·rw[if_pos k1];exact λh0=>absurd h0 (by dsimp only;omega)
 rw[if_neg k1];have l2:((Frm.fr b).take (lq (rT s) 0 (b.length+7))).length≤b.length+7:=by rw[aAg,Frm.bO];omega
 have in2:bS s.N (1 - hb s.D)+0+((Frm.fr b).take (lq (rT s) 0 (b.length+7))).length≤(tB s).length:=o_;have len2:(rL s b).length=s.D.length:=by rw[←len1];exact dZ in2
 have hb2:hb (rL s b)=hb s.D:=by rw[←hb1];exact AY o_ in2
 have half2:bB (rL s b) s.N (hb s.D)=bB s.D s.N (hb s.D):=by rw[←half1];exact lQ o_ hbl in2 o_
 by_cases k2:iT (rT s) 0 (b.length+7)=true
 ·rw[if_pos k2];exact λh0=>absurd h0 (by dsimp only;omega)
 rw[if_neg k2];by_cases kz:wk (yA s b)=0
 ·have hdd:jD (yA s b)=true:=by
   unfold wk at kz;unfold jD;split at kz
   ·rename_i hh;exact decide_eq_true hh
   ·omega
  have hD3:nM s b=rL s b:=by unfold nM;rw[if_pos kz,aLw]
  rw[if_pos hdd,hD3];exact λh0=>absurd h0 (by dsimp only;omega)
 ·have hD3:nM s b=sp (rL s b) 0 [tx s.D]:=by unfold nM;rw[if_neg kz]
  have in3:0+[tx s.D].length≤(rL s b).length:=by show 0+1≤_;omega
  have hb3:hb (nM s b)=1 - hb s.D:=by
   rw[hD3,Dp];exact Gr _
  have aNg:(nM s b).length=s.D.length:=by rw[hD3,←len2];exact dZ in3
  have half3:bB (nM s b) s.N (1 - hb s.D)=Frm.fr b++List.replicate (32*s.N - (b.length+7)) 0:=by
   rw[hD3,lQ o_ hq1 in3 (.inl (by show 0+1≤_;omega))];have e2:lq (rT s) 0 (b.length+7)=b.length+7:=zV (by cases hh:iT (rT s) 0 (b.length+7);rfl;exact absurd hh k2);have e1:lq s.aG 0 (32*s.N)=32*s.N:=zV (by cases hh:iT s.aG 0 (32*s.N);rfl;exact absurd hh k1);have f2:(Frm.fr b).take (lq (rT s) 0 (b.length+7))=Frm.fr b:=by rw[e2];exact aAj (by rw[Frm.bO];exact aAf _)
   have f1:(List.replicate (32*s.N) (0:UInt8)).take (lq s.aG 0 (32*s.N))=List.replicate (32*s.N) 0:=by rw[e1];exact aAj (by rw[aAz];exact aAf _)
   have g2:bB (rL s b) s.N (1 - hb s.D)=sp (bB (tB s) s.N (1 - hb s.D)) 0 (Frm.fr b):=by
    unfold rL;rw[f2];exact rD o_ hq1 (by rw[Frm.bO];omega)
   have g1:bB (tB s) s.N (1 - hb s.D)=sp (bB s.D s.N (1 - hb s.D)) 0 (List.replicate (32*s.N) 0):=by
    unfold tB;rw[f1];exact rD hl hq1 (by rw[aAz];omega)
   have g0:sp (bB s.D s.N (1 - hb s.D)) 0 (List.replicate (32*s.N) 0)=List.replicate (32*s.N) 0:=by
    unfold sp;rw[aCg,aBq,aCn (by rw[eH hl hq1,aAz];omega),aAc]
   rw[g2,g1,g0];have g3:=CT (c:=[]) (x:=Frm.fr b) (z:=32*s.N) (by rw[Frm.bO];omega);rw[aBq,aBq,aDh,Frm.bO] at g3;exact g3
  have hfound:Frm.cZ (bB (nM s b) s.N (hb (nM s b)))=[b]:=by
   rw[hb3,half3];have g4:=(oW (ls:=[b]) (λx hx=>by rw[aAp] at hx;subst hx;exact⟨by omega,by omega⟩) (32*s.N - (b.length+7))).1;rw[yP] at g4;exact g4
  by_cases k3:jD (yA s b)=true
  ·rw[if_pos k3];exact λh0=>absurd h0 (by dsimp only;omega)
  ·rw[if_neg k3];refine λ_=>⟨aNg.trans hl,h.n0,h.n1,λx hx=>?_,by show 1≤[b].length;exact aAf _,?_,rfl,?_,?_⟩
   ·dsimp only at hx;rw[aAp] at hx;subst hx;exact⟨by omega,by omega⟩
   ·show b.length+7=(cat [b]).length;rw[yP,Frm.bO]
   ·show bB (nM s b) s.N (hb (nM s b))=cat [b]++List.replicate (32*s.N - (b.length+7)) 0;rw[hb3,half3,yP]
   ·show b.length+7+0≤32*s.N;omega
end
end Go.Proofs.YtmilalkjbojciaaGreat.Sep
