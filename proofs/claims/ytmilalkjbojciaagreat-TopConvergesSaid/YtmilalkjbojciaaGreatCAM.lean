/- Part AM: what it needs. No condition. -/
import Derived.Test.YtmilalkjbojciaaGreatCAI
set_option linter.all false
set_option maxRecDepth 100000
set_option maxHeartbeats 8000000
open Go.Proofs.Tryz
namespace Go.Proofs.YtmilalkjbojciaaGreat.Sep
variable{D:o!}{F:Int}{H:List aG}{N:Nat}{f:bE}{i k:Nat}{l:o!}{o:Nat}{t:q!}{x:o!}
section
open Go.RowKit Reg
open Mem hiding Rd
abbrev mF:={ l:o! // l.length=32 }
def qK:Ty mF where
 val s:=.agg (s.1.map λb=>Value.int .u8 (b.toNat:Int)).toArray
 size:=32
 bytes:=32
 tid:=295
 zero:=.agg (List.replicate 32 (Value.int .u8 0)).toArray
 hlen s:=by simp[Value.cells,s.2]
 kL s u h:=by
  simp only[Value.cells,jX] at h;obtain⟨b,_,rfl⟩:=h;rfl
 fZ:=sD
 hzero:=by simp[Value.cells]
 lF:=q_
 mQ:=.inl ⟨q_,λ_=>⟨_,rfl⟩⟩
instance aSn:pH 295 mF qK:=⟨rfl⟩
instance aSs:pR qK 32:=⟨rfl⟩
def Kk:mF:=⟨List.replicate 32 0,s_⟩
instance aSo:Et qK Kk:=⟨rfl⟩
def Ul:LK qK bH 32 (·.1):=λs=>⟨by
 show(s.1.map λb=>Value.int .u8 (b.toNat:Int))=s.1.flatMap λb=>[Value.int .u8 (b.toNat:Int)]
 induction s.1 with
 |nil=>rfl
 |cons b l a=>simp[a],s.2⟩
def aHo:Rec prog 250 [.bool false,.bool false,a! 0,a! 0,.slice none 0 0] [(0,1),(1,1),(2,1),(3,1),(4,1)]:=⟨q_,q_⟩
instance aSl:iB 250 [.bool false,.bool false,a! 0,a! 0,.slice none 0 0] [(0,1),(1,1),(2,1),(3,1),(4,1)]:=⟨aHo⟩
abbrev oI(g:Nat)(made dead:Bool)(aO wr:Int)(A:n!)(n c:Nat):aG:=aE g 250 [.bool made,.bool dead,a! aO,a! wr,.slice A n c]
def flat(l:List mF):o!:=l.flatMap (·.1)
theorem Ai(l:List mF):(flat l).length=32*l.length:=by
 induction l with
 |nil=>rfl
 |cons s l a=>simp only[flat,zK,bR,s.2,gL] at a⊢;omega
theorem HG(a b:List mF):flat (a++b)=flat a++flat b:=E0
def Zg{l:List mF}(h:i<l.length):flat (l.take (i+1))=flat (l.take i)++l[i].1:=by
 rw[rS h,HG];simp[flat]
def aKt(E:Env)(n:Int)(k:Nat)(a:(k:Int)=if n<0 then 0 else if 256<n then 256 else n) :
  aF prog E 106 #[a! n] [] λe b=>∃g d,e=.returned (.pointer (some ⟨g,0,none⟩))/\b=[oI g true false (-1) 0 (some ⟨d,0,none⟩) k k,own qK (some ⟨d,0,none⟩) k k (List.replicate k Kk)]:=by
 have f:k<=256:=by split at a<;>(try split at a)<;>omega
 refine x_ func106 ntmps106 ?_
 refine aU (λM=>QT M n 0 256) ?_;rintro e b ⟨rfl,rfl⟩;rw[show fC n 0 256=(k:Int) from a.symm];refine c_ ?_;intros
 exact dS ⟨_,_,rfl,rfl⟩
section
variable (E:Env) (g:Nat) (made dead:Bool) (aO wr:Int) (A:n!) (n c:Nat) (l:List mF)
abbrev lN:List aG:=[oI g made dead aO wr A n c,own qK A n c l]
def Rm(i:Int)(b:Bool)(hb:b=(!dead&&decide (0<=i)&&decide (i<n)))(h:n<=256):aF prog E 286 #[.pointer (some ⟨g,0,none⟩),a! i] [oI g made dead aO wr A n c] λe a=>e=.returned (.bool b)/\a=[oI g made dead aO wr A n c]:=by
 subst hb;have f:n<=maxLen:=by unfold maxLen;omega
 refine t_ func286 ntmps286 ?_;cases dead
 ·by_cases d:0<=i;all_goals
   refine c_ ?_;exact aX rfl aJ aC (⟨by simp[d],rfl⟩)
 ·refine c_ ?_;exact aS
def wk(aO:Int):Nat:=if 0<=aO/\aO<32 then aO.toNat else 32
def oS(aO:Int):Bool:=decide (0<=aO/\aO<32)
def pQ(aO:Int):Int:=if 0<=aO/\aO<32 then -1 else if aO = -1 then -1 else aO - 32
def vY(aO:Int):wk aO<=32:=by unfold wk;split<;>omega
def front(k:Nat)(b:o!)(hb:b.length=32)(a:k<=32)(s:mF):mF:=⟨b.take k++s.1.drop k,by simp[s.2,hb];omega⟩
def V3(B:n!)(d:Nat)(b:o!)(i:Nat)(hb:b.length=32)(hr:Rd E bH B 32 d b)(hn:n<=256)(hi:i<l.length)(ha : -1<=aO)(ha2:aO<=9223372036854775807)(hw:0<=wr)(hw2:wr<=100000000000000) :
  aF prog E 233 #[.pointer (some ⟨g,0,none⟩),a! i,.slice B 32 d] (lN g made false aO wr A n c l) λe H'=>e=.returned (.bool (!oS aO)) /\
   H'=lN g made (oS aO) (pQ aO) (wr+wk aO) A n c (l.set i (front (wk aO) b hb (vY _) l[i])):=by
 refine aF.fact (p:=n=l.length) (λw hw=>(eE.own (H:=lN g made false aO wr A n c l) aV w hw).1) λhnl=>?_;have hm:=hr.len;have hcap:=hr.cap;have hli:l[i]?=some l[i]:=bS hi;have hfr:(front (wk aO) b hb (vY _) l[i]).1=b.take (wk aO)++l[i].1.drop (wk aO):=rfl;have hcut:=hr.upto (k:=wk aO) (m:=d) (vY _) (iR (vY _) hcap.1) (bM _);have harr:=Ul;have hwle:=vY aO;generalize front (wk aO) b hb (vY _) l[i]=s at *;refine x_ func233 ntmps233 ?_
 refine aP (λM=>Rm M g made false aO wr A n c i true (by simp;omega) hn) ?_;repeat ((fail_if_success (refine C.seq (x:=Code.region 4 _ _) ?_));first|refine mV ?_|refine tU ?_|intro _|refine Dr.two ?_ ?_)
 refine C.cW (X:=Unit) (λ_=>[(0,.pointer (some ⟨g,0,none⟩)),(1,a! i),(2,.slice B 32 d),(7,a! (wk aO:Nat))]) (λ_=>lN g made (oS aO) (pQ aO) wr A n c l) (λ_=>True) ?_ ?_
 ·unfold wk oS pQ;by_cases h1:aO = -1
  ·rw[b! o_,b! o_,c! h1,e! o_];subst h1;refine c_ ?_;exact⟨(),aK,aB.refl,trivial⟩
  ·by_cases h2:aO<32;rw[c! ⟨o_,h2⟩,c! ⟨o_,h2⟩,d! ⟨o_,h2⟩];obtain⟨k,rfl⟩:=zI (show 0<=aO by omega);rotate_left;rw[b! o_,b! o_,b! h1,e! o_];all_goals
    refine c_ ?_;exact⟨(),aK,aB.refl,trivial⟩
 rintro - G -;generalize wk aO=k at *;refine c_ ?_;refine C.fL 10 (l_ [0,1,2,3,4,5,6,7,8,9] (g_ 10 .nil)) _ q_ q_ aB.refl (c_ ?_);exact aS
end
def YI(E:Env)(A:n!)(n c:Nat)(l:List _)(h:Rd E bH A n c l)(i:n<=140737488355300):aF prog E 156 #[.slice A n c] [] λe f=>∃d b,e=.returned (.slice d n b)/\n<=b/\b<=maxLen/\f=[own bH d n b l]:=by
 refine t_ func156 ntmps156 ?_;cases A with
 |none =>
  obtain⟨rfl,rfl⟩:=h.none;refine c_ ?_
  exact aX rfl aJ (aB.nil bH) ⟨_,_,rfl,bM _,bY _,rfl⟩
 |some a =>
  refine c_ ?_;intros
  exact aX rfl aJ aC (⟨_,_,rfl,by assumption,by assumption,rfl⟩)
def YK(E:Env)(A:n!)(n c:Nat)(l:List _)(h:Rd E qK A n c l)(i:n<=1000000):aF prog E 203 #[.slice A n c] [] λe f=>∃d b,e=.returned (.slice d n b)/\n<=b/\b<=maxLen/\f=[own qK d n b l]:=by
 refine t_ func203 ntmps203 ?_;cases A with
 |none =>
  obtain⟨rfl,rfl⟩:=h.none;refine c_ ?_
  exact aX rfl aJ (aB.nil qK) ⟨_,_,rfl,bM _,bY _,rfl⟩
 |some a =>
  refine c_ ?_;intros
  exact aX rfl aJ aC (⟨_,_,rfl,by assumption,by assumption,rfl⟩)
section
variable (E:Env) (g:Nat) (made dead:Bool) (aO wr:Int) (A:n!) (n c:Nat) (l:List mF)
def N6(i:Nat)(o:n<=256)(hi:i<l.length)(p:n=l.length) :
  aF prog E 234 #[.pointer (some ⟨g,0,none⟩),a! i] (lN g made false aO wr A n c l) λe f=>∃B d,e=.returned (.tuple #[.slice B 32 d,.bool true])/\32<=d/\d<=maxLen/\f=own bH B 32 d l[i].1::lN g made false aO wr A n c l:=by
 have b:l[i]?=some l[i]:=bS hi;have a:=Ul;have m:32<=maxLen:=by unfold maxLen;omega
 generalize l[i]=s at *;refine x_ func234 ntmps234 ?_
 refine A_ (λM=>Rm M g made false aO wr A n c i true (by simp;omega) o) ?_
 refine cl sD sK aH (λM k=>YI M _ 32 32 s.1 (Rd.inner a m (Sub.own k aV) b rfl) o_) ?_;rintro e f ⟨B,d,rfl,h,j,rfl⟩;refine c_ ?_
 exact oN ⟨_,_,rfl,h,j,rfl⟩
def W2(k:Int):aF prog E 193 #[.pointer (some ⟨g,0,none⟩),a! k] [oI g true dead aO wr A n c] λe a=>e=.returned (.tuple #[])/\a=[oI g true dead (if dead then aO else max k (-1)) wr A n c]:=by
 refine t_ func193 ntmps193 ?_;cases dead
 ·rw[b! s_];refine c_ ?_;exact vK
 ·rw[c! rfl];refine c_ ?_;exact vK
def aFj:aF prog E 141 #[.pointer (some ⟨g,0,none⟩)] [oI g true dead aO wr A n c] λe a=>e=.returned (.tuple #[])/\a=[oI g true false (-1) wr A n c]:=by
 refine x_ func141 ntmps141 ?_
 exact vK
def aLt(d:n<=256):aF prog E 221 #[.pointer (some ⟨g,0,none⟩)] [oI g made dead aO wr A n c] λe a=>e=.returned (a! n)/\a=[oI g made dead aO wr A n c]:=by
 have b:n<=maxLen:=by unfold maxLen;omega
 refine x_ func221 ntmps221 ?_
 exact aS
def MR:aF prog E 175 #[.pointer (some ⟨g,0,none⟩)] [oI g made dead aO wr A n c] λe a=>e=.returned (.bool dead)/\a=[oI g made dead aO wr A n c]:=by
 refine x_ func175 ntmps175 ?_
 exact aS
def QU(j:n<=256):aF prog E 140 #[.pointer (some ⟨g,0,none⟩)] (lN g true dead aO wr A n c l) λe b=>∃f a d,e=.returned (.pointer (some ⟨f,0,none⟩))/\b=lN f true dead aO wr a n d l++lN g true dead aO wr A n c l:=by
 refine x_ func140 ntmps140 ?_;intros
 refine cU (λM h=>YK M A n c l h o_) ?_;rintro e b ⟨a,d,rfl,h,i,rfl⟩;refine c_ ?_
 exact dS ⟨_,_,_,rfl,rfl⟩
end
section
variable {E:Env} {H:List aG} {α:Type} {T:Ty α} {A:n!} {n c:Nat} {l:List α} {N:Nat} {F:Nat->p!} {o:Oper} {H':List aG}
def lay(l:List α)(k:Nat)(l2:List α):List α:=l.take k++l2++l.drop (k+l2.length)
def O?{l2:List α}(h:k+l2.length<=l.length):(lay l k l2).length=l.length:=by
 unfold lay;simp only[bR,dR,lB];omega
def Tf{F1:Nat->Prop}{u:World}{g:Nat}{l2:List α}{a:Array p!}(f:(own T (some ⟨g,0,none⟩) n c l).holds F1 u)(p:u.heap[g]?=some (.cells a T.tid (0,0)))(v:k+l2.length<=n)(j:0<n) :
  k*T.size+(T.cE l2).length<=a.size/\F1 g/\(own T (some ⟨g,0,none⟩) n c (lay l k l2)).holds F1 (u.setRow g (a.toList.take (k*T.size+0)++T.cE l2++a.toList.drop (k*T.size+0+(T.cE l2).length)).toArray):=by
 have x:=f.1;have⟨z,_,_,m,e,s,B,D,J⟩:=EL (g:=g) (q:=0) f rfl j;rw[p] at e;injection e with e;injection e with e _ _;subst e;have h:∀b,F1 b↔b=g:=by
  obtain⟨_,⟨d,_⟩|⟨K,_,d,t,_⟩⟩:=f
  ·omega
  ·injection d with d;injection d with d;subst d;exact t
 have i:(T.cE l2).length=l2.length*T.size:=T.mH l2;have r:(k+l2.length)*T.size<=n*T.size:=oC _ v;have w:(k+l2.length)*T.size=k*T.size+l2.length*T.size:=tL _ _ _;have y:n*T.size<=c*T.size:=oC _ s;refine⟨o_,z,by rw[O? o_];exact x,.inr ⟨g,_,rfl,h,setRow_heap u g _ _ _ _ p,s,B,?_,?_⟩⟩
 ·simp;omega
 ·unfold lay;rw[T.D2,T.D2,<-T.FP,<-T.zX,<-J,tL,<-i,Gg];have M:a.toList.length=c*T.size:=by rw[Db,D]
  simp only;rw[Gc,Gc,E8,E8,E9 o_,nM o_,fX (l:=T.cE l2) (by rw[dR];omega),List.drop_take];congr 2;rw[bR,dR,nM o_]
def Qi{g:Nat}(a:k<c):(if c=k then(some (⟨g,0,none⟩:Addr)) else(some (⟨g,0,none⟩:Addr)).map (·.add (k*T.size)))=some ⟨g,k*T.size,none⟩:=by
 rw[b! o_];show some ((⟨g,0,none⟩:Addr).add _)=_;rw[uJ,lM]
def S.YU{x d:r!}{t2:q!}{m nx cx:Nat}{X:n!}{l2:List α}(ho:o.op=.call { callee:=.builtin .copy,args:=#[d,x],argTypes:=#[t,t2] })
  (hd:ev F d=.slice (if c=k then A else A.map (·.add (k*T.size))) m (c - k)) (hx:ev F x=.slice X nx cx) (hrd:eE E H T X nx cx l2) (hr:eQ (own T A n c l) [own T A n c (lay l k l2)] H H')
  (ht:prog.underlying t=some (.slice T.tid)) (hkm:k+m<=n) (h0:0<m) (hnx:nx<=m) (hm:m<=maxLen):dF prog N E F H o λr H1=>r=a! (nx:Int)/\H1=H':=by
 intro a u ha hu Kw Q' hK;have⟨R,hhas,F0,h1⟩:=hu.CF hr;have⟨g,hA0⟩:∃g,A=some ⟨g,0,none⟩:=by
  obtain⟨_,⟨rfl,h2,_⟩|⟨g,cur,rfl,_⟩⟩:=h1
  ·omega
  ·exact⟨g,rfl⟩
 subst hA0;have⟨hF,_,_,cur,hh,h2,h3,h4,h5⟩:=EL (g:=g) (q:=0) h1 rfl o_;rw[Qi o_] at hd;have⟨k0,_,_,_⟩:=hrd u hu;have hfc:=UT hrd hu;have hp:∀F1,(own T (some ⟨g,0,none⟩) n c l).holds F1 u->_:=λF1 h=>Tf (k:=k) (l2:=l2) h hh o_ o_;have hst:=run_storeCells_at prog g (k*T.size) T.tid (T.cE l2) 0 cur u hh (by have:=(hp F0 h1).1;omega) (T.Cw l2);have⟨tu,hi,_,hsz,_⟩:=T.sG;have hmin:Nat.min nx m=nx:=nM hnx;unfold Oper.wp;rw[ha.eval];have hw:IntKind.i64.wrap (nx:Int)=nx:=dY _ (by unfold maxLen at hm;omega);have hrun:(execOp (ev F) o).run prog u=.ok (.value (a! (nx:Int))) (u.setRow g (cur.toList.take (k*T.size+0)++T.cE l2++cur.toList.drop (k*T.size+0+(T.cE l2).length)).toArray):=by
  simp[execOp,ho,resolve,invoke,builtin,hd,hx,Builtin.copy_,run_underlying ht,Builtin.lenOf,hmin,sizeOf,typeInfo,hi,hsz,hfc,goInt] at hst⊢;simp[hst]
 rw[hrun];exact hK _ _ _ ⟨rfl,rfl⟩ (St.setRow hu hr g _ λF1 k1=>⟨(hp F1 k1).2.1,(hp F1 k1).2.2⟩)
def S.YB{x:r!}{z:α}{m:Nat}(ho:o.op=.call { callee:=.builtin .clear,args:=#[x],argTypes:=#[t] })(hx:ev F x=.slice (if c=k then A else A.map (·.add (k*T.size))) m (c - k))
  (ht:prog.underlying t=some (.slice T.tid)) (hz:T.val z=T.zero) (hkm:k+m<=n) (h0:0<m) (hr:eQ (own T A n c l) [own T A n c (lay l k (List.replicate m z))] H H'):dF prog N E F H o λr H1=>r=.tuple #[]/\H1=H':=by
 intro a u ha hu Kw Q' hK;have⟨R,hhas,F0,h1⟩:=hu.CF hr;have⟨g,hA0⟩:∃g,A=some ⟨g,0,none⟩:=by
  obtain⟨_,⟨rfl,h2,_⟩|⟨g,cur,rfl,_⟩⟩:=h1
  ·omega
  ·exact⟨g,rfl⟩
 subst hA0;have⟨hF,_,_,cur,hh,h2,h3,h4,h5⟩:=EL (g:=g) (q:=0) h1 rfl o_;rw[Qi o_] at hx;have⟨ti,hi,hzz,hsz,hbt⟩:=T.sG;have hzc:Builtin.zeroCells T.zero.cells m=madeCells T.zero.cells (m*T.size):=by
  have:=T.hzero;simp[Builtin.zeroCells,madeCells,this]
 have hzl:(Builtin.zeroCells T.zero.cells m).toList=T.cE (List.replicate m z):=by rw[hzc,J6 T z hz]
 have hp:∀F1,(own T (some ⟨g,0,none⟩) n c l).holds F1 u->_:=λF1 h=>Tf (k:=k) (l2:=List.replicate m z) h hh (by rw[rR];omega) o_;have hst:=run_storeCells_at prog g (k*T.size) T.tid (T.cE (List.replicate m z)) 0 cur u hh (by have:=(hp F0 h1).1;omega) (T.Cw _);unfold Oper.wp;rw[ha.eval];have hx2:(execOp (ev F) o).run prog u=.ok (.value (.tuple #[])) (u.setRow g (cur.toList.take (k*T.size+0)++T.cE (List.replicate m z)++cur.toList.drop (k*T.size+0+(T.cE (List.replicate m z)).length)).toArray):=by
  obtain⟨m,rfl⟩:∃k',m=k'+1:=⟨m - 1,o_⟩;unfold execOp;simp only[ho,resolve,invoke,builtin,iE,mY,iO,Dh,jL,tI,hx];simp[Builtin.clear_,run_underlying ht,zeroValue,typeInfo,hi,hzz,hzl] at hst⊢;simp[hst]
 rw[hx2];exact hK _ _ _ ⟨rfl,rfl⟩ (St.setRow hu hr g _ λF1 k1=>⟨(hp F1 k1).2.1,(hp F1 k1).2.2⟩)
def V.X9{x:r!}{e:q!}{B:n!}{d:Nat}{u:World}(a:o.op=.call { callee:=.builtin .clear,args:=#[x],argTypes:=#[t] })(f:ev F x=.slice B 0 d)(b:prog.underlying t=some (.slice e)):(execOp (ev F) o).run prog u=.ok (.value (.tuple #[])) u:=by
 unfold execOp;simp only[a,resolve,invoke,builtin,iE,mY,iO,Dh,jL,tI,f];cases B<;>simp[Builtin.clear_,run_underlying b]
end
end
section
open Go.RowKit Reg Oct Frm
open Mem hiding Rd
section
variable (E:Env) (A:n!) (n c:Nat) (l:o!)
def Wb:aB E H (own kC none 0 0 []::aT jF []::H):=λw a=>aB.nil kC w (aB.pK jF w a)
def Wc(p:Rd E bH A n c l)(D:n<=2000000) :
  aF prog E 223 #[.slice A n c] [] λe u=>∃O o g,e=.returned (.tuple #[.slice O g.length o,a! (upto l)])/\u=[own kC O g.length o g,aT jF g]/\g.map (·.b)=iH l:=by
 have F:=p.len;have q:=p.cap;have y:=Ra l;refine x_ func223 ntmps223 ?_;refine C.loop (X:=Nat×n!×Nat×List Oc) (λx=>[(0,.slice A n c),(4,.slice x.2.1 x.2.2.2.length x.2.2.1),(5,a! x.1)]) (λx=>[own kC x.2.1 x.2.2.2.length x.2.2.1 x.2.2.2,aT jF x.2.2.2])
  (λx=>x.1<=n/\x.2.2.2.map (·.b)++iH (l.drop x.1)=iH l/\x.1+upto (l.drop x.1)=upto l) (λx=>n - x.1) (0,none,0,[]) aK (Wb E) ⟨bY _,rfl,s_⟩ ?_
 rintro⟨i,O,o,g⟩ G ⟨s,a,b⟩;dsimp only at s a b⊢;have dQ:=p.from_ (k:=i) s;have z:g.length<=(iH l).length:=by rw[<-a];simp
 refine c_ ?_;cases j:kJ (l.drop i) with
 |none =>
  have m:=C0 j;rw[m.1,aY] at a;rw[m.2,Gg] at b;refine cl sD sK aH (λM w=>Rk M _ (n - i) (c - i) (l.drop i) bK o_ j) (e_ ?_);exact uX rfl aJ aJ aC (⟨_,_,_,by rw[<-b],rfl,a⟩)
 |some r =>
  have⟨x,k⟩:=r;have hb:=FR j;have m:=FW j;rw[lB] at hb;refine cl sD sK aH (λM w=>Rl M _ (n - i) (c - i) (l.drop i) bK o_ x k j) (e_ ?_);intro B d;refine L.lI sD (S.pY (T:=kC) (e:=(⟨B,x.length,d,x⟩:Oc)) rfl rfl rfl rfl sD) ?_;rintro _ _ ⟨_,rfl,rfl⟩;refine c_ ?_;intros;rename_i t v _ _;have h:(g++[(⟨B,x.length,d,x⟩:Oc)]).length=g.length+1:=s_
  rw[m.1] at a;rw[m.2] at b;refine⟨(i+k,t,v,g++[(⟨B,x.length,d,x⟩:Oc)]),?_,?_,⟨by dsimp only;omega,?_,?_⟩,d_⟩
  ·dsimp only;rw[h];exact aK
  ·dsimp only;rw[h];exact(aB.push (f:=jF) (x:=⟨B,x.length,d,x⟩) aH).trans aC
  ·dsimp only;rw[<-a,gP,bF,<-pU];rfl
  ·dsimp only;rw[<-b,<-pU];omega
end
end
section
def sp(D:o!)(o:Nat)(x:o!):o!:=D.take o++x++D.drop (o+x.length)
theorem uZ(h:o+x.length<=D.length):(sp D o x).length=D.length:=by
 grind [sp]
theorem BH(h:o+x.length<=D.length)(j:Nat):(sp D o x)[j]?=if j<o then D[j]? else if j<o+x.length then x[j - o]? else D[j]?:=by
 grind [sp]
def Kt(D:o!)(o:Nat):sp D o []=D:=by unfold sp;simp
theorem CO{j:Nat}:(l.take k)[j]?=if j<k then l[j]? else none:=by grind
theorem RV{l:List mF}(h:i<l.length):flat l=flat (l.take i)++l[i].1++flat (l.drop (i+1)):=by
 have:l=l.take i++l[i]::l.drop (i+1):=by rw[<-lL h,mE]
 conv=>lhs;rw[this]
 rw[HG,bF];rfl
def RU{l:List mF}{b:o!}(hb:b.length=32)(d:k<=32)(h:i<l.length):flat (l.set i (front k b hb d l[i]))=sp (flat l) (32*i) (b.take k):=by
 have a:l.set i (front k b hb d l[i])=l.take i++front k b hb d l[i]::l.drop (i+1):=by
  grind [List.set_eq_take_append_cons_drop]
 have e:(flat (l.take i)).length=32*i:=by grind [Ai]
 have g:=l[i].2;have c:(b.take k).length=k:=by rw[dR];omega
 rw[a,HG,RV h];show flat (l.take i)++((b.take k++l[i].1.drop k)++flat (l.drop (i+1)))=_;unfold sp;rw[c];simp only[bF];have f:(flat (l.take i)++(l[i].1++flat (l.drop (i+1)))).drop (32*i+k)=l[i].1.drop k++flat (l.drop (i+1)):=by
  rw[<-e,List.drop_append,PJ o_];simp
 rw[qT e,f]
def RT{l:List mF}(h:i<l.length):l[i].1=((flat l).drop (32*i)).take 32:=by
 have a:(flat (l.take i)).length=32*i:=by grind [Ai]
 grind [RV,List.drop_left',List.take_left']
def Zf(l:List mF)(k:Nat):flat (l.take k)=(flat l).take (32*k):=by
 grind [flat,HG,List.take_append_drop,List.take_left',Ai,List.take_of_length_le]
def Ze(l:List mF)(k:Nat):flat (l.drop k)=(flat l).drop (32*k):=by
 by_cases h:k<=l.length
 ·have a:flat l=flat (l.take k)++flat (l.drop k):=by rw[<-HG,mE]
  grind [List.drop_left',Ai]
 ·rw[PK o_,PK (by grind [Ai])];rfl
def dQ(N h:Nat):Nat:=32*(1+h*N)
def cN(D:o!)(N h:Nat):o!:=(D.drop (dQ N h)).take (32*N)
def p8(l:List mF)(N h:Nat):flat ((l.drop (1+h*N)).take N)=cN (flat l) N h:=by
 unfold cN dQ;rw[Zf,Ze]
def An{h:Nat}(a:D.length=32*(2*N+1))(b:h<=1):(cN D N h).length=32*N:=by
 unfold cN dQ;rw[dR,lB,a];have:h*N<=1*N:=oC _ b;omega
theorem Mx{h p:Nat}(a:p<32*N):(cN D N h)[p]?=D[dQ N h+p]?:=by
 grind [cN]
def tO(at_ len:Nat):Nat:=if len=0 then 0 else(at_+len+31) / 32 - at_ / 32
def jR(F:Int)(a len:Nat):Bool:=decide (0<=F/\F<32*(tO a len:Nat))
def lq(F:Int)(a len:Nat):Nat:=if 0<=F/\F<32*(tO a len:Nat) then min len (F.toNat - a % 32) else len
def fO(F:Int)(a len:Nat):Int:=if 0<=F/\F<32*(tO a len:Nat) then -1 else if F = -1 then -1 else F - 32*(tO a len:Nat)
theorem aGj(F:Int)(a len:Nat):lq F a len<=len:=by grind [lq]
def Fj{a len:Nat}(h:jR F a len=false):lq F a len=len:=by
 grind [jR,lq]
def EC(h : -1<=F)(a len:Nat) : -1<=fO F a len:=by grind [fO]
def Q?{b:o!}{h a:Nat}(z:D.length=32*(2*N+1))(o:h<=1)(n:a+b.length<=32*N)(E:a / 32<=i)(hi:32*i<a+b.length)(H:k<=32) :
  sp (sp D (dQ N h+a) (b.take (min b.length (32*i - a)))) (dQ N h+32*i) ((((sp (cN D N h) a b).drop (32*i)).take 32).take k)=sp D (dQ N h+a) (b.take (min b.length (32*i+k - a))):=by
 have A:h*N<=1*N:=oC _ o;have B:dQ N h+32*N<=D.length:=by unfold dQ;omega
 have l:=An (D:=D) z o;have y:32*i+32<=32*N:=o_;have q:(sp (cN D N h) a b).length=32*N:=by rw[uZ o_,l]
 have u:(b.take (min b.length (32*i - a))).length=min b.length (32*i - a):=by rw[dR];omega
 have v:(b.take (min b.length (32*i+k - a))).length=min b.length (32*i+k - a):=by rw[dR];omega
 have w:((((sp (cN D N h) a b).drop (32*i)).take 32).take k).length=k:=by simp only[dR,lB];omega
 have m:dQ N h+a+(b.take (min b.length (32*i - a))).length<=D.length:=by rw[u];omega
 have x:dQ N h+a+(b.take (min b.length (32*i+k - a))).length<=D.length:=by rw[v];omega
 have b3:dQ N h+32*i+((((sp (cN D N h) a b).drop (32*i)).take 32).take k).length<=(sp D (dQ N h+a) (b.take (min b.length (32*i - a)))).length:=by rw[w,uZ m];omega
 apply uH;intro j;rw[BH b3,BH x,BH m,u,v,w];have g:∀p,p<32*N->(sp (cN D N h) a b)[p]?=if p<a then D[dQ N h+p]? else if p<a+b.length then b[p - a]? else D[dQ N h+p]?:=by
  grind [BH,Mx]
 have d:∀t,t<k->((((sp (cN D N h) a b).drop (32*i)).take 32).take k)[t]?=(sp (cN D N h) a b)[32*i+t]?:=by
  grind
 revert g d;generalize (((sp (cN D N h) a b).drop (32*i)).take 32).take k=Z;generalize sp (cN D N h) a b=W;generalize dQ N h=f at *;intro g d;by_cases r:j<f+32*i
 ·rw[c! r];by_cases c:j<f+a
  ·rw[c! c,c! c]
  ·rw[b! c,b! c];by_cases F:j - (f+a)<b.length
   ·rw[c! o_,c! o_,CO,CO,c! o_,c! o_]
   ·rw[b! o_,b! o_]
 ·rw[b! r];by_cases s:j<f+32*i+k
  ·rw[c! s,d _ o_,g _ o_];have e:32*i+(j - (f+32*i))=j - f:=o_;rw[e];by_cases c:j<f+a
   ·rw[c! c,c! o_];congr 1;omega
   ·rw[b! c,b! o_];by_cases F:j - (f+a)<b.length
    ·rw[c! o_,c! o_,CO,c! o_];congr 1;omega
    ·rw[b! o_,b! o_];congr 1;omega
  ·rw[b! s];by_cases c:j<f+a
   ·rw[c! c,c! c]
   ·rw[b! c,b! c,b! o_,b! o_]
def ZR(h:Frm.kJ l=some (x,k)):l.take k=Frm.fr x/\1<=x.length/\x.length<=4096:=by
 unfold Frm.kJ at h;split at h
 ·rename_i e;injection h with h;injection h with f g;have⟨a,b,i,c,d⟩:=e;have j:=(Frm.Nb a b c).1 d;grind
 ·cases h
def cat(ls:List (o!)):o!:=(ls.map Frm.fr).flatten
def ML(x:o!)(ls:List (o!)):cat (x::ls)=Frm.fr x++cat ls:=rfl
theorem MK(a b:List (o!)):cat (a++b)=cat a++cat b:=by simp[cat]
def Gu(b:o!):cat [b]=Frm.fr b:=by simp[cat]
def Gk(ls:List (o!)):Prop:=∀x∈ls,1<=x.length/\x.length<=4096
def Rb(l:o!):l.take (Frm.upto l)=cat (Frm.iH l)/\Gk (Frm.iH l)/\Frm.upto l<=l.length:=by
 have c:∀(k:Nat) (l:o!),l.length<=k->l.take (Frm.upto l)=cat (Frm.iH l)/\Gk (Frm.iH l)/\Frm.upto l<=l.length:=by
  intro k
  induction k with
  |zero =>
   intro l i;have d:l=[]:=wF o_;subst d;have:=Frm.C0 (l:=[]) rfl;rw[this.1,this.2];exact⟨rfl,λ_ h=>(cZ h).elim,bM _⟩
  |succ k p =>
   intro l i;cases a:Frm.kJ l with
   |none =>
    have:=Frm.C0 a;rw[this.1,this.2];exact⟨rfl,λ_ h=>(cZ h).elim,bY _⟩
   |some r =>
    have⟨x,n⟩:=r;have hb:=Frm.FR a;have⟨e,f,g⟩:=ZR a;have:=Frm.FW a;rw[this.1,this.2];have⟨j,m,o⟩:=p (l.drop n) (by rw[lB];omega);rw[lB] at o;refine⟨by rw[zO,e,j,ML],λy b=>?_,o_⟩;rcases tK.1 b with rfl|b
    ·exact⟨f,g⟩
    ·exact m y b
 exact c _ l (bM _)
def ZT(z:Nat):Frm.kJ (List.replicate z 0)=none:=by
 have:=Frm.Mk (b:=[]) (k:=0) (z:=z) s_ s_
 grind
def HH{ls:List (o!)}(h:Gk ls)(z:Nat):Frm.iH (cat ls++List.replicate z 0)=ls/\Frm.upto (cat ls++List.replicate z 0)=(cat ls).length:=by
 induction ls with
 |nil =>
  have:=Frm.C0 (ZT z);exact⟨this.1,this.2⟩
 |cons x ls g =>
  have c:=h x jW;have⟨e,f⟩:=g λy d=>h y (kF _ d);have a:=Frm.HF (b:=x) (t:=cat ls++List.replicate z 0) c.1 c.2;rw[ML,bF,(Frm.FW a).1,(Frm.FW a).2,rQ (Frm.jO x),e,f,bR,Frm.jO]
  grind
end
section
open Go.RowKit Reg
open Mem hiding Rd
def aFn:Rec prog 259 [.pointer none,a! 0] [(0,1),(1,1)]:=⟨q_,q_⟩
instance aTg:iB 259 [.pointer none,a! 0] [(0,1),(1,1)]:=⟨aFn⟩
def aCs:Rec prog 262 [.pointer none,a! 0,.slice none 0 0,a! 0,a! 0,.slice none 0 0] [(0,2),(2,1),(3,1),(4,1),(5,1)]:=⟨q_,q_⟩
instance aSq:iB 262 [.pointer none,a! 0,.slice none 0 0,a! 0,a! 0,.slice none 0 0] [(0,2),(2,1),(3,1),(4,1),(5,1)]:=⟨aCs⟩
abbrev Hq(gd_ N:Nat):p!:=.agg #[.pointer (some ⟨gd_,0,none⟩),a! (N:Int)]
def hb(D:o!):Nat:=(D.headD 0).toNat % 2
def Am(D:o!):hb D<=1:=by unfold hb;omega
def Wi(x:UInt8):Go.bits .and .u8 (x.toNat:Int) 1=((x.toNat % 2:Nat):Int):=by
 have h:∀y:Fin 256,Go.bits .and .u8 (y.1:Int) 1=((y.1 % 2:Nat):Int):=by decide +kernel
 exact h ⟨x.toNat,x.toNat_lt⟩
section
variable (E:Env) (gd_ N:Nat) (aO wr:Int) (A:n!) (n c:Nat) (l:List mF)
def LB(o:n<=256)(k:0<l.length)(f:n=l.length):aF prog E 177 #[Hq gd_ N] (lN gd_ true false aO wr A n c l) λe g=>e=.returned (a! ((hb (flat l):Nat):Int))/\g=lN gd_ true false aO wr A n c l:=by
 have⟨x,m⟩:∃x,l[0].1[0]?=some x:=⟨_,bS (i:=0) (by rw[l[0].2];omega)⟩
 have b:hb (flat l)=x.toNat % 2:=by
  have a:(flat l)[0]?=some x:=by
   have h:=RT k;rw[h,Nat.mul_zero,uG,CO,c! o_] at m;exact m
  unfold hb;cases j:flat l with
  |nil=>rw[j] at a;cases a
  |cons y t=>rw[j] at a;injection a with a;rw[a];rfl
 have p:=Wi x;have q:IntKind.i64.wrap ((x.toNat % 2:Nat):Int)=((x.toNat % 2:Nat):Int):=dY _ o_;rw[b];refine x_ func177 ntmps177 ?_;intros
 refine aU (λM=>N6 M gd_ true aO wr A n c l 0 o k f) ?_;rintro e g ⟨B,d,rfl,a,h,rfl⟩;refine c_ ?_
 exact aS
def Vr(h:Nat)(y:n<=256)(g:n=l.length)(u:h<=1)(K:n=2*N+1):aF prog E 222 #[Hq gd_ N,a! (h:Int)] (lN gd_ true false aO wr A n c l) λe k=>∃O d,e=.returned (.slice O (32*N) d)/\(32*N<=d/\d<=maxLen)/\k=own bH O (32*N) d (cN (flat l) N h)::lN gd_ true false aO wr A n c l:=by
 have r:=cS;have⟨q,f⟩:∃q,h*N=q:=⟨_,rfl⟩;have z:q<=N:=by rw[<-f];have:h*N<=1*N:=oC _ u;omega
 have s:IntKind.i64.wrap ((h:Int)*(N:Int))=(q:Int):=by rw[<-f,dY _ (by rw[<-LY,f];omega),LY]
 rw[<-p8,f];refine x_ func222 ntmps222 ?_;intros;rename_i o;refine C.loop (X:=Nat×n!×Nat) (λx=>[(1,a! (h:Int)),(2,.pointer (some ⟨o,0,none⟩)),(5,.slice x.2.1 (32*x.1) x.2.2),(10,a! N),(11,a! x.1)])
  (λx=>own bH x.2.1 (32*x.1) x.2.2 (flat ((l.drop (1+q)).take x.1))::aE o 259 [.pointer (some ⟨gd_,0,none⟩),a! (N:Int)]::lN gd_ true false aO wr A n c l) (λx=>x.1<=N/\32*x.1<=x.2.2/\x.2.2<=maxLen) (λx=>N - x.1) (0,none,0) aK (aB.nil bH) ⟨bY _,bY _,bY _⟩ ?_
 rintro⟨i,O,d⟩ G ⟨v,p,a⟩;dsimp only at v p a⊢;by_cases w:i<N
 ·have b:1+q+i<l.length:=o_;have m:IntKind.i64.wrap (IntKind.i64.wrap (1+(q:Int))+(i:Int))=((1+q+i:Nat):Int):=by rw[dY (1+(q:Int)) o_,dY _ o_];omega
  have t:IntKind.i64.wrap (1+(q:Int))=1+(q:Int):=dY _ o_;have F:IntKind.i64.wrap (1+(q:Int)+(i:Int))=((1+q+i:Nat):Int):=by rw[t] at m;exact m
  have j:flat ((l.drop (1+q)).take (i+1))=flat ((l.drop (1+q)).take i)++l[1+q+i].1:=by
   rw[Zg (by rw[lB];omega),List.getElem_drop]
  refine c_ ?_;refine aU (λM=>N6 M gd_ true aO wr A n c l (1+q+i) y b g) ?_;rintro e k ⟨B,D,rfl,H,J,rfl⟩;refine c_ ?_;intros;exact⟨(i+1,_,_),aK,by dsimp only;rw[j,show 32*(i+1)=32*i+32 by omega];exact aC,⟨by dsimp only;omega,by dsimp only;omega,d_⟩,d_⟩
 ·obtain rfl:i=N:=o_;refine c_ ?_;exact dS ⟨_,_,rfl,⟨p,a⟩,rfl⟩
end
section
variable (E:Env) (gd_ N:Nat) (aO wr:Int) (A:n!) (n c:Nat) (l:List mF)
def aDb(B:n!)(m d:Nat)(b:o!)(i:Nat)(j:m=32)(hb:b.length=32)(o:Rd E bH B m d b)(k:n<=256)(hi:i<l.length)(h : -1<=aO)(a:aO<=9223372036854775807)(p:0<=wr)(f:wr<=100000000000000) :
  aF prog E 233 #[.pointer (some ⟨gd_,0,none⟩),a! i,.slice B m d] (lN gd_ true false aO wr A n c l) λe g=>e=.returned (.bool (!oS aO)) /\
   g=lN gd_ true (oS aO) (pQ aO) (wr+wk aO) A n c (l.set i (front (wk aO) b hb (vY _) l[i])):=by
 subst j;exact V3 E gd_ true aO wr A n c l B d b i hb o k hi h a p f
def Ey(gd_ N:Nat)(aO wr:Int)(A:n!)(n c:Nat)(l:List mF)(h a:Nat)(b:o!):Ending->List aG->Prop:=λe g =>
 ∃f d,e=.returned (.bool (!jR aO a b.length))/\f.length=l.length/\flat f=sp (flat l) (dQ N h+a) (b.take (lq aO a b.length))/\wr<=d/\d<=wr+2048/\g=lN gd_ true (jR aO a b.length) (fO aO a b.length) d A n c f
def LD(h a:Nat)(B:n!)(m Z:Nat)(b:o!)(hr:Rd E bH B m Z b)(hn:n<=256)(b5:n=l.length)(R:h<=1)(hN:n=2*N+1)(b8:N<=64)(ha : -1<=aO)(c6:aO<=9223372036854775807)(hw:0<=wr)(e5:wr<=90000000000000)(J:a+b.length<=32*N) :
  aF prog E 176 #[Hq gd_ N,a! (h:Int),a! (a:Int),.slice B m Z] (lN gd_ true false aO wr A n c l) (Ey gd_ N aO wr A n c l h a b):=by
 have c1:=cS;have hm:=hr.len;have c8:=hr.cap;have hD:(flat l).length=32*(2*N+1):=by rw[Ai];omega
 have b6:=An (D:=flat l) hD R;unfold Ey;refine x_ func176 ntmps176 ?_;intros;rename_i g4;refine aU (λM=>Vr M gd_ N aO wr A n c l h hn b5 R hN) ?_;rintro e H' ⟨O,d,rfl,⟨c9,e1⟩,rfl⟩;refine gk bU ?_;by_cases a9:m=0
 ·have b0:b=[]:=wF o_;subst a9 b0;have y:jR aO a ([]:o!).length=false:=by unfold jR tO;exact e! (by simp<;>omega)
  have z:fO aO a ([]:o!).length=aO:=by
   unfold fO tO;rw[b! (by simp<;>omega)];split
   ·rename_i h;exact h.symm
   ·simp
  rw[y,z];refine c_ ?_;exact aX rfl aJ aC (⟨l,wr,rfl,rfl,by rw[List.take_nil,Kt],dV _,o_,rfl⟩)
 have c7:IntKind.i64.wrap ((a:Int)+(m:Int))=((a+m:Nat):Int):=by rw[dY _ o_];omega
 have c4:IntKind.i64.wrap ((a:Int).tdiv 32)=((a / 32:Nat):Int):=by
  rw[show(a:Int).tdiv 32=((a / 32:Nat):Int) by rw[PG o_];omega];exact dY _ o_
 refine c_ ?_;refine L.lI sD (S.YU (T:=bH) rfl rfl rfl pC gR rfl o_ o_ o_ o_) ?_;rintro _ _ ⟨rfl,rfl⟩;rw[show Sep.lay (cN (flat l) N h) a b=sp (cN (flat l) N h) a b from rfl];have⟨q,U⟩:∃q,h*N=q:=⟨_,rfl⟩;have e4:q<=N:=by rw[<-U];have:h*N<=1*N:=oC _ R;omega
 have c2:IntKind.i64.wrap ((h:Int)*(N:Int))=(q:Int):=by rw[<-U,dY _ (by rw[<-LY,U];omega),LY]
 have b1:dQ N h=32*(1+q):=by unfold dQ;rw[U]
 have a8:(sp (cN (flat l) N h) a b).length=32*N:=by rw[uZ o_,b6]
 refine c_ ?_;refine C.loop (X:=Nat×List mF×Int×Int) (λx=>[(1,a! (h:Int)),(2,a! (a:Int)),(3,.slice B m Z),(4,.pointer (some ⟨g4,0,none⟩)),(9,.slice O (32*N) d),(10,a! x.1)])
  (λx=>own bH O (32*N) d (sp (cN (flat l) N h) a b)::aE g4 259 [.pointer (some ⟨gd_,0,none⟩),a! (N:Int)]::lN gd_ true false x.2.2.1 x.2.2.2 A n c x.2.1)
  (λx=>a / 32<=x.1/\32*x.1<a+m+32/\x.2.1.length=l.length/\flat x.2.1=sp (flat l) (dQ N h+a) (b.take (min b.length (32*x.1 - a)))/\((aO = -1/\x.2.2.1 = -1)\/(0<=x.2.2.1/\x.2.2.1=aO - 32*((x.1:Int) - (a / 32:Nat))))/\x.2.2.2=wr+32*((x.1:Int) - (a / 32:Nat)))
  (λx=>a+m+32 - 32*x.1) (a / 32,l,aO,wr) aK aC ⟨bM _,by dsimp only;omega,rfl,by dsimp only;rw[show 32*(a / 32) - a=0 by omega,E9 (bY _),qU,Kt],by dsimp only;omega,d_⟩ ?_
 rintro⟨i,w,j,W⟩ G ⟨K,b2,o,u,hF,b7⟩;dsimp only at K b2 o u hF b7⊢;have b9:IntKind.i64.wrap ((i:Int)*32)=((32*i:Nat):Int):=by rw[dY _ o_];omega
 by_cases e3:32*i<a+m
 ·have c0:IntKind.i64.wrap (((i:Int)+1)*32)=((32*i+32:Nat):Int):=by rw[dY _ o_];omega
  have e0:IntKind.i64.wrap (1+(q:Int))=1+(q:Int):=dY _ o_;have e2:IntKind.i64.wrap (1+(q:Int)+(i:Int))=((1+q+i:Nat):Int):=by rw[dY _ o_];omega
  have r:1+q+i<w.length:=o_;have c3:n=w.length:=o_;have c5:32*i+32<=32*N:=o_;have s:32*i+32 - 32*i=32:=o_;have F : -1<=j:=o_;have H:j<=9223372036854775807:=o_;have P:0<=W:=o_;have Q:W<=100000000000000:=o_;have t:(((sp (cN (flat l) N h) a b).take (32*i+32)).drop (32*i)).length=32:=by rw[lB,dR,a8];omega
  have p:flat (w.set (1+q+i) (front (wk j) _ t (vY _) w[1+q+i]))=sp (flat l) (dQ N h+a) (b.take (min b.length (32*i+wk j - a))):=by
   rw[RU t (vY _) r,u,List.drop_take,s,show 32*(1+q+i)=dQ N h+32*i by rw[b1];omega];exact Q? hD R J K o_ (vY _)
  have k:tO a b.length=(a+b.length+31) / 32 - a / 32:=by unfold tO;rw[b! o_]
  refine c_ ?_;refine rB (l_ [0,1,2,3,4,5,6,7,8,9,10,11,12,13,14,15] (g_ 16 (n_ 17 .nil))) ([own bH O (32*N) d (sp (cN (flat l) N h) a b),aE g4 259 [.pointer (some ⟨gd_,0,none⟩),a! (N:Int)]]) (c_ ?_);refine cg rfl sD bB sK aH (λM hE=>aDb M gd_ j W A n c w _ _ _ _ (1+q+i) s t (Rd.cut (Sub.own hE aV) o_ o_) hn r F H P Q) ?_;cases g:oS j
  ·unfold oS at g;have g:=of_decide_eq_false g;have v:wk j=32:=by unfold wk;rw[b! g]
   rintro e H' ⟨rfl,rfl⟩;refine c_ ?_;refine⟨(i+1,_,_,_),aK,aC,⟨by dsimp only;omega,by dsimp only;omega,by dsimp only;rw[iM];exact o,?_,?_,?_⟩,d_⟩
   ·dsimp only;rw[p,v];rfl
   ·dsimp only;unfold pQ;rw[b! g];split<;>omega
   ·dsimp only;rw[v];omega
  ·unfold oS at g;have g:=g! g;have v:wk j=j.toNat:=by unfold wk;rw[c! g]
   have f:0<=aO/\aO<32*(tO a b.length:Nat):=by rw[k];omega
   have y:jR aO a b.length=true:=d! f;have z:fO aO a b.length = -1:=by unfold fO;rw[c! f]
   have h3:lq aO a b.length=min b.length (32*i+wk j - a):=by unfold lq;rw[c! f,v];omega
   have h4:pQ j = -1:=by unfold pQ;rw[c! g]
   rw[y,z,h3,h4];refine e_ ?_;exact aX rfl aJ aC (⟨_,_,rfl,by rw[iM];exact o,p,by rw[v];omega,by rw[v];omega,rfl⟩)
 ·have k:tO a b.length=(a+b.length+31) / 32 - a / 32:=by unfold tO;rw[b! o_]
  have f:¬(0<=aO/\aO<32*(tO a b.length:Nat)):=by rw[k];omega
  have y:jR aO a b.length=false:=e! f;have z:fO aO a b.length=j:=by unfold fO;rw[b! f,k];split<;>omega
  have h3:lq aO a b.length=min b.length (32*i - a):=by unfold lq;rw[b! f];omega
  rw[y,z,h3];refine c_ ?_;exact aX rfl aJ aC (⟨w,W,rfl,o,u,o_,o_,rfl⟩)
end
def aFb(x:UInt8):Go.bits .andNot .u8 (x.toNat:Int) 1=((x.toNat / 2*2:Nat):Int):=by
 have h:∀y:Fin 256,Go.bits .andNot .u8 (y.1:Int) 1=((y.1 / 2*2:Nat):Int):=by decide +kernel
 exact h ⟨x.toNat,x.toNat_lt⟩
def aQa(x:UInt8):Go.bits .or .u8 ((x.toNat / 2*2:Nat):Int) ((1 - x.toNat % 2:Nat):Int)=((x ^^^ 1).toNat:Int):=by
 have h:∀y:Fin 256,Go.bits .or .u8 ((y.1 / 2*2:Nat):Int) ((1 - y.1 % 2:Nat):Int)=((UInt8.ofNat y.1 ^^^ 1).toNat:Int):=by decide +kernel
 have a:=h ⟨x.toNat,x.toNat_lt⟩;rw[UInt8.ofNat_toNat] at a;exact a
def tx(D:o!):UInt8:=D.headD 0 ^^^ 1
section
variable (E:Env) (gd_ N:Nat) (aO wr:Int) (A:n!) (n c:Nat) (l:List mF)
def aGk(F:n<=256)(m:0<l.length)(r:n=l.length)(O : -1<=aO)(o:aO<=9223372036854775807)(W:0<=wr)(u:wr<=100000000000000) :
  aF prog E 262 #[Hq gd_ N,a! ((1 - hb (flat l):Nat):Int)] (lN gd_ true false aO wr A n c l) λe z=>∃v f,e=.returned (.bool (!oS aO))/\v.length=l.length/\flat v=sp (flat l) 0 (if wk aO=0 then[] else[tx (flat l)])/\wr<=f/\f<=wr+32/\z=lN gd_ true (oS aO) (pQ aO) f A n c v:=by
 have⟨x,H⟩:∃x,l[0].1[0]?=some x:=⟨_,bS (i:=0) (by rw[l[0].2];omega)⟩;have b:=RT m;rw[Nat.mul_zero,uG] at b;have h:(flat l)[0]?=some x:=by
  rw[b,CO,c! o_] at H;exact H
 have k:(flat l).headD 0=x:=by
  cases D:flat l with
  |nil=>rw[D] at h;cases h
  |cons y t=>rw[D] at h;injection h
 have p:hb (flat l)=x.toNat % 2:=by unfold hb;rw[k]
 have s:tx (flat l)=x ^^^ 1:=by unfold tx;rw[k]
 have t1:=aFb x;have t2:=aQa x;have X:IntKind.u8.wrap ((1 - x.toNat % 2:Nat):Int)=((1 - x.toNat % 2:Nat):Int):=IntWalk.u8_in _ o_;have a:(l[0].1.set 0 (x ^^^ 1)).length=32:=by rw[iM];exact l[0].2
 have q:flat (l.set 0 (front (wk aO) (l[0].1.set 0 (x ^^^ 1)) a (vY _) l[0]))=sp (flat l) 0 (if wk aO=0 then[] else[tx (flat l)]):=by
  rw[RU a (vY _) m,Nat.mul_zero,s];have U:32<=(flat l).length:=by rw[Ai];omega
  have R:=vY aO;by_cases J:wk aO=0
  ·rw[J,qU,c! rfl]
  ·rw[b! J];apply uH;intro j;have K:((l[0].1.set 0 (x ^^^ 1)).take (wk aO)).length=wk aO:=by rw[dR,a];omega
   rw[BH (by rw[K];omega),BH (by show 0+1<=_;omega),K];rw[b! (It j),xU];try rw[b! (It j)]
   by_cases P:j=0
   ·subst P;rw[c! o_,c! o_,CO,c! o_,PO (by rw[l[0].2];omega)];rfl
   ·by_cases Q:j<wk aO
    ·rw[c! o_,b! o_,CO,c! o_,Nat.sub_zero,BY o_,b,CO,c! o_]
    ·rw[b! o_,b! o_]
 rw[p];refine x_ func262 ntmps262 ?_;intros;refine aU (λM=>N6 M gd_ true aO wr A n c l 0 F m r) ?_;rintro e z ⟨B,d,rfl,Z,h4,rfl⟩;refine c_ ?_;refine cV (λM h=>V3 M gd_ true aO wr A n c l B d _ 0 a h F m O o W u) ?_;refine c_ ?_;have R:=vY aO;exact aX rfl aJ aC (⟨_,_,rfl,by rw[iM],q,o_,o_,rfl⟩)
end
structure WL where
 N:Nat
 R:Option Addr
 m:Nat
 rc:Nat
 bT:List Oc
 dP:Nat
 pos:Nat
 P:Option Addr
 p:Nat
 pc:Nat
 cY:List UInt8
 dead:Bool
 aO:Int
 wr:Int
 A:Option Addr
 k:Nat
 c:Nat
 jG:List mF
abbrev xL(g gd_:Nat)(w:WL):aG:=aE g 262 [.pointer (some ⟨gd_,0,none⟩),a! (w.N:Int),.slice w.R w.m w.rc,a! (w.dP:Int),a! (w.pos:Int),.slice w.P w.p w.pc]
abbrev qN(g gd_:Nat)(w:WL):List aG:=[xL g gd_ w,own kC w.R w.m w.rc w.bT,aT jF w.bT,own bH w.P w.p w.pc w.cY,oI gd_ true w.dead w.aO w.wr w.A w.k w.c,own qK w.A w.k w.c w.jG]
structure LS where
 N:Nat
 D:List UInt8
 bT:List (List UInt8)
 dP:Nat
 pos:Nat
 cY:List UInt8
 dead:Bool
 aO:Int
def WL.s(w:WL):LS:=⟨w.N,flat w.jG,w.bT.map (·.b),w.dP,w.pos,w.cY,w.dead,w.aO⟩
structure WL.ok(w:WL):Prop where
 hm:w.m=w.bT.length
 hp:w.p=w.cY.length
 hk:w.k=w.jG.length
 n0:1<=w.N
 n1:w.N<=64
 len:w.k=2*w.N+1
 a0 : -1<=w.aO
 a1:w.aO<=9223372036854775807
 w0:0<=w.wr
 fit:w.pos+w.p<=32*w.N
 bT:w.m<=100000
 dP:w.dP<=w.m
 wide:∀x∈w.bT,x.n=x.b.length/\x.b.length<=4096
section
variable (E:Env) (g gd_:Nat) (w:WL)
def IS:aF prog E 174 #[.pointer (some ⟨g,0,none⟩)] [xL g gd_ w] λe a=>e=.returned (.bool true)/\a=[xL g gd_ w]:=by
 refine x_ func174 ntmps174 ?_
 exact aS
def aLn(h:w.ok):aF prog E 285 #[.pointer (some ⟨g,0,none⟩)] [xL g gd_ w] λe b=>e=.returned (a! ((32*w.N - w.pos - w.p:Nat):Int))/\b=[xL g gd_ w]:=by
 have a:=cS;have j:=h.n1;have k:=h.fit;have d:IntKind.i64.wrap ((w.N:Int)*32)=(w.N:Int)*32:=dY _ o_;have f:IntKind.i64.wrap ((w.N:Int)*32 - (w.pos:Int))=(w.N:Int)*32 - (w.pos:Int):=dY _ o_;have i:IntKind.i64.wrap ((w.N:Int)*32 - (w.pos:Int) - (w.p:Int))=((32*w.N - w.pos - w.p:Nat):Int):=by rw[dY _ o_];omega
 have m:w.p<=maxLen:=o_;refine x_ func285 ntmps285 ?_
 refine A_ (λM=>IS M g gd_ w) ?_
 refine rA (l_ [0,1,2,3,4,5,6,7,8,9,10,11,12,13,14,15,16,17] .nil) (c_ ?_)
 exact aS
end
def LS.append(s:LS)(b:o!):Int×LS :=
 if b.length=0 then(4,s) else if 4096<b.length then(5,s) else if 32*s.N - s.pos - s.cY.length<b.length+7 then(10,s) else(0,⟨s.N,s.D,s.bT++[b],s.dP,s.pos,s.cY++Frm.fr b,s.dead,s.aO⟩)
def AT(g gd_:Nat)(w:WL)(z:Int×LS)(K:Int):Ending->List aG->Prop:=λe b =>
 ∃a:WL,e=.returned (a! z.1)/\a.ok/\a.s=z.2/\a.wr<=w.wr+K/\a.m<=w.m+1/\b=qN g gd_ a
def DJ{P:t!}{E:Env}{fn:Func}{R:Ending->List aG->Prop}{F:Nat->p!}{H1:List aG}{e:Ex}(hc:aB E H H1)(h:mB P E fn R e F H1)(hp:∀c,e≠.panic c:=by intro c h;cases h):mB P E fn R e F H:=by
 cases e with
 |panic c=>exact i! rfl (hp c)
 |normal=>have⟨v,H',h1,h2,h3⟩:=h;exact⟨v,H',λw hw=>h1 w (hc w hw),hc.trans h2,h3⟩
 |ret=>have⟨v,H',h1,h2,h3⟩:=h;exact⟨v,H',λw hw=>h1 w (hc w hw),hc.trans h2,h3⟩
 |exit=>exact h.elim
section
variable (E:Env) (g gd_:Nat) (w:WL)
def aQx(h:w.ok):aF prog E 225 #[.pointer (some ⟨g,0,none⟩)] [xL g gd_ w,own kC w.R w.m w.rc w.bT,aT jF w.bT] λe t=>∃O k b,e=.returned (.slice O w.m k)/\b.length=w.m/\b.map Oc.b=w.bT.map Oc.b/\(w.m<=k/\k<=maxLen)/\(∀x∈b,x.n=x.b.length/\x.b.length<=4096)/\t=[own kC O w.m k b,aT jF b,xL g gd_ w,own kC w.R w.m w.rc w.bT,aT jF w.bT]:=by
 have s:=cS;have H:=h.bT;have D:=h.hm;have A:w.m<=maxLen:=o_;refine x_ func225 ntmps225 ?_;refine A_ (λM=>IS M g gd_ w) ?_;refine C.loop (X:=Nat×n!×Nat×List Oc) (λx=>[(3,.slice x.2.1 x.1 x.2.2.1),(12,.slice w.R w.m w.rc),(13,a! (w.m:Nat)),(14,a! x.1)])
  (λx=>[own kC x.2.1 x.1 x.2.2.1 x.2.2.2,aT jF x.2.2.2,xL g gd_ w,own kC w.R w.m w.rc w.bT,aT jF w.bT]) (λx=>x.1<=w.m/\x.2.2.2.length=x.1/\x.2.2.2.map Oc.b=(w.bT.take x.1).map Oc.b/\(x.1<=x.2.2.1/\x.2.2.1<=maxLen)/\∀y∈x.2.2.2,y.n=y.b.length/\y.b.length<=4096) (λx=>w.m - x.1) (0,none,0,[]) aK ((aB.pK jF).trans ((aB.mR kC none).trans aC)) ⟨bY _,rfl,rfl,⟨bM _,bY _⟩,λy c=>(cZ c).elim⟩ ?_
 rintro⟨i,O,k,b⟩ F ⟨z,d,a,m,j⟩;dsimp only at z d a m j⊢;by_cases B:i<w.m
 ·have⟨x,r⟩:∃x,w.bT[i]?=some x:=⟨_,bS o_⟩;have q:(w.bT.take (i+1)).map Oc.b=(w.bT.take i).map Oc.b++[x.b]:=by rw[rS o_,gP,(cH.1 r).2];rfl
  have n:=h.wide x (dG r);refine c_ ?_;intros;refine L.lI sD (S.Pw (T:=bH) (l2:=x.b) rfl rfl rfl (n':=x.n) (lM _) (λ_ _=>gR) (eE.aT (f:=jF) aV r rfl) (jD _) rfl (by_:=1) rfl eZ eZ) ?_;rintro _ _ ⟨o,p,⟨k1,k2⟩,rfl,rfl⟩;refine c_ ?_;refine L.lI sD (S.pY (T:=kC) (e:=(⟨o,x.n,p,x.b⟩:Oc)) rfl rfl rfl rfl sD) ?_;rintro _ _ ⟨_,rfl,rfl⟩;refine c_ ?_;intros;rename_i u v k3 k4;refine⟨(i+1,u,v,b++[(⟨o,x.n,p,x.b⟩:Oc)]),aK,aB.trans (aB.push (f:=jF) (l:=b) (x:=⟨o,x.n,p,x.b⟩) aH) aC,⟨by dsimp only;omega,by dsimp only;rw[bR,d];rfl,by dsimp only;rw[q,gP,a];rfl,⟨k3,k4⟩,λy c=>?_⟩,d_⟩;rcases eL.1 c with c|c
  ·exact j y c
  ·rw[eM] at c;subst c;exact n
 obtain rfl:i=w.m:=o_;rw[fX o_] at a;refine c_ ?_;exact dS ⟨O,k,b,rfl,d,a,m,j,rfl⟩
def aQl(h:w.ok)(Q:w.m+1<=100000)(X:n!)(nx cx:Nat)(b:o!)(K:Rd E bH X nx cx b) :
  aF prog E 229 #[.pointer (some ⟨g,0,none⟩),.slice X nx cx] (qN g gd_ w) (AT g gd_ w (w.s.append b) 0):=by
 have H:=cS;have j:=K.len;have O:=K.cap;have i:=h.n0;have t:=h.n1;have F:=h.fit;have D:=h.dP;have u:=h.hm;have n:=h.hp;have J:w.p<=maxLen:=o_;have s:w.s.append b=if b.length=0 then(4,w.s) else if 4096<b.length then(5,w.s) else if 32*w.N - w.pos - w.cY.length<b.length+7 then(10,w.s) else(0,⟨w.N,flat w.jG,w.bT.map (·.b)++[b],w.dP,w.pos,w.cY++Frm.fr b,w.dead,w.aO⟩):=rfl;have a:∀z:Int,AT g gd_ w (z,w.s) 0 (.returned (a! z)) (qN g gd_ w):=λz=>⟨w,rfl,h,rfl,o_,o_,rfl⟩
 rw[s];refine x_ func229 ntmps229 ?_;refine A_ (λM=>IS M g gd_ w) ?_;by_cases A:b.length=0
 ·rw[c! A];obtain rfl:nx=0:=o_;refine A_ (λM=>Tv M X cx) ?_;exact dS (a 4)
 rw[b! A];by_cases B:4096<b.length
 ·rw[c! B];refine cV (λM r=>Tw M X nx cx b r o_) ?_;refine c_ ?_;exact dS (a 5)
 rw[b! B];refine cU (λM r=>Fz M X nx cx b r o_ o_) ?_;rintro e W ⟨U,Z,rfl,rfl⟩;refine gk bU ?_;have P:nx+7<=maxLen:=o_;refine c_ ?_;refine aP (λM=>aLn M g gd_ w h) ?_;rw[<-n];by_cases m:32*w.N - w.pos - w.p<b.length+7
 ·rw[c! m];have R:decide (((32*w.N - w.pos - w.p:Nat):Int)<((nx+7:Nat):Int))=true:=d! o_;refine c_ ?_;exact dS (a 10)
 rw[b! m];have R:decide (((32*w.N - w.pos - w.p:Nat):Int)<((nx+7:Nat):Int))=false:=e! o_;refine c_ ?_;intros;rename_i y o k1 k2;have N:w.m<=maxLen:=o_;refine C.fL 12 (l_ [0,1,2,3,4,6] (g_ 5 (g_ 7 (g_ 8 (g_ 9 (l_ [10,11] (g_ 12 .nil))))))) ([aE g 262 [.pointer (some ⟨gd_,0,none⟩),a! (w.N:Int),.slice w.R w.m w.rc,a! (w.dP:Int),a! (w.pos:Int),.slice y (w.p+(nx+7)) o]]) q_ q_ aC (c_ ?_);intros;rename_i p q k3 k4;refine Dr.mK rfl (by rintro k ⟨⟩<;>decide) bB (S.pY (T:=kC) (e:=(⟨p,nx,q,b⟩:Oc)) rfl rfl rfl rfl sD) ?_;rintro _ _ ⟨_,rfl,rfl⟩;refine⟨aC,?_⟩;refine c_ ?_;intros;rename_i R2 v k5 k6;have c:∀x∈w.bT++[(⟨p,nx,q,b⟩:Oc)],x.n=x.b.length/\x.b.length<=4096:=by
  intro x d;rcases eL.1 d with d|d
  ·exact h.wide x d
  ·rw[eM] at d;subst d;exact⟨j,d_⟩
 refine DJ (aB.push (f:=jF) (l:=w.bT) (x:=⟨p,nx,q,b⟩) aH) ?_;exact aX rfl aJ aC (⟨⟨w.N,R2,w.m+1,v,w.bT++[(⟨p,nx,q,b⟩:Oc)],w.dP,w.pos,y,w.p+(nx+7),o,w.cY++Frm.fr b,w.dead,w.aO,w.wr,w.A,w.k,w.c,w.jG⟩,rfl,⟨by dsimp only;rw[bR,u];rfl,by dsimp only;rw[bR,Frm.jO,n,j],h.hk,i,t,h.len,h.a0,h.a1,h.w0,by dsimp only;omega,by dsimp only;omega,by dsimp only;omega,c⟩,by unfold WL.s;dsimp only;rw[gP];rfl,by dsimp only;omega,by dsimp only;omega,rfl⟩)
end
def LS.new(k:Nat):LS:=⟨k,List.replicate (32*(2*k+1)) 0,[],0,0,[],false,-1⟩
def Zh(m:Nat):flat (List.replicate m Kk)=List.replicate (32*m) 0:=by
 induction m with
 |zero=>rfl
 |succ m a =>
  rw[List.replicate_succ,show 32*(m+1)=32+32*m by omega,<-List.replicate_append_replicate,<-a];rfl
def LS.sync(s:LS):Int×LS :=
 if s.dead=true then(19,s) else if jR s.aO s.pos s.cY.length=true then(19,⟨s.N,sp s.D (dQ s.N (hb s.D)+s.pos) (s.cY.take (lq s.aO s.pos s.cY.length)),s.bT,s.dP,s.pos,s.cY,true,fO s.aO s.pos s.cY.length⟩)
 else(0,⟨s.N,sp s.D (dQ s.N (hb s.D)+s.pos) s.cY,s.bT,s.bT.length,s.pos+s.cY.length,[],false,fO s.aO s.pos s.cY.length⟩)
section
variable (E:Env) (g gd_:Nat) (w:WL)
def aOd(h:w.ok)(A:w.wr<=90000000000000):aF prog E 112 #[.pointer (some ⟨g,0,none⟩)] (qN g gd_ w) (AT g gd_ w w.s.sync 2048):=by
 have D:=cS;have r:=h.n0;have j:=h.n1;have b:=h.len;have n:=h.fit;have m:=h.dP;have d:=h.bT;have u:=h.hm;have v:=h.hp;have f:=h.hk;have c:w.k<=256:=o_;have z:0<w.jG.length:=by have:=h.hk;omega
 have i:w.pos+w.cY.length<=32*w.N:=by have:=h.hp;omega
 have F:w.p<=maxLen:=o_;have H:w.m<=maxLen:=o_;have s:w.s.sync=if w.dead=true then(19,w.s) else if jR w.aO w.pos w.cY.length=true then(19,⟨w.N,sp (flat w.jG) (dQ w.N (hb (flat w.jG))+w.pos) (w.cY.take (lq w.aO w.pos w.cY.length)),w.bT.map (·.b),w.dP,w.pos,w.cY,true,fO w.aO w.pos w.cY.length⟩)
  else(0,⟨w.N,sp (flat w.jG) (dQ w.N (hb (flat w.jG))+w.pos) w.cY,w.bT.map (·.b),(w.bT.map (·.b)).length,w.pos+w.cY.length,[],false,fO w.aO w.pos w.cY.length⟩):=rfl
 rw[<-h.hp,fB,<-h.hm] at s;rw[s];refine x_ func112 ntmps112 ?_;refine A_ (λM=>IS M g gd_ w) ?_;refine aU (λM=>MR M gd_ true w.dead w.aO w.wr w.A w.k w.c) ?_;rcases tF w.dead with y|y
 ·rw[c! y];have k:AT g gd_ w (19,w.s) 2048 (.returned (a! 19)) (qN g gd_ w):=⟨w,rfl,h,rfl,o_,o_,rfl⟩;rintro e B ⟨rfl,rfl⟩;refine c_ ?_;exact dS (k)
 rw[b! (by rw[y];exact lA)];rintro e B ⟨rfl,rfl⟩;rw[y];refine c_ ?_;refine rB (l_ [0,1,2,3,4,5,6,7,9,10,11,12,13,14,15,16] (g_ 8 (g_ 17 (l_ [18,19] .nil)))) ([xL g gd_ w]) (c_ ?_);refine G_ (λM=>LB M gd_ w.N w.aO w.wr w.A w.k w.c w.jG c z f) ?_;refine cg rfl sD bB sK aH (λM K=>LD M gd_ w.N w.aO w.wr w.A w.k w.c w.jG (hb (flat w.jG)) w.pos w.P w.p w.pc w.cY (Sub.own K aV) c f (Am _) b j h.a0 h.a1 h.w0 A i) ?_;unfold Ey;rw[<-v];rintro e B ⟨J,x,rfl,p,a,P,t,rfl⟩;refine gd bU aC ?_;have o:=EC h.a0 w.pos w.p;have q:fO w.aO w.pos w.p<=9223372036854775807:=by have:=h.a1;unfold fO;split;omega;split<;>omega
 rcases tF (jR w.aO w.pos w.p) with l|l
 ·rw[c! l,l];refine c_ ?_;exact aX rfl aJ aC (⟨⟨w.N,w.R,w.m,w.rc,w.bT,w.dP,w.pos,w.P,w.p,w.pc,w.cY,true,fO w.aO w.pos w.p,x,w.A,w.k,w.c,J⟩,rfl,⟨u,v,f.trans p.symm,r,j,b,o,q,by have:=h.w0;dsimp only;omega,n,d,m,h.wide⟩,by unfold WL.s;dsimp only;rw[a],t,by dsimp only;omega,rfl⟩)
 ·rw[b! (by rw[l];exact lA),l];have O:=Fj l;rw[O,fX o_] at a;have N:IntKind.i64.wrap ((w.pos:Int)+(w.p:Int))=((w.pos+w.p:Nat):Int):=by rw[dY _ o_];omega
  refine c_ ?_;refine C.fL 12 (l_ [0,1,2,3,4,5,6,7,8,9,10,11] (g_ 12 .nil)) _ q_ q_ aB.refl (c_ ?_);refine DJ (aB.mR bH none) ?_;exact aX rfl aJ aC (⟨⟨w.N,w.R,w.m,w.rc,w.bT,w.m,w.pos+w.p,none,0,0,[],false,fO w.aO w.pos w.p,x,w.A,w.k,w.c,J⟩,rfl,⟨u,rfl,f.trans p.symm,r,j,b,o,q,by have:=h.w0;dsimp only;omega,by show w.pos+w.p+0<=_;omega,d,bM _,h.wide⟩,by unfold WL.s;dsimp only;rw[a],t,by dsimp only;omega,rfl⟩)
end
def nZ(X:o!)(p:Nat):Nat->Nat
 |0=>0
 |k+1=>if p<k+1/\X[k]?=some 0 then nZ X p k else k+1
def VN(X:o!)(p k:Nat):nZ X p k<=k:=by
 induction k with
 |zero=>exact bM _
 |succ k a=>unfold nZ;split<;>omega
def VM{X:o!}{p:Nat}(h:p<=k):p<=nZ X p k:=by
 induction k with
 |zero=>unfold nZ;omega
 |succ k a =>
  unfold nZ;split
  ·exact a o_
  ·exact h
theorem aQc{X:o!}{p j:Nat}(a:nZ X p k<=j)(e:j<k):X[j]?=some 0:=by
 induction k with
 |zero=>omega
 |succ k d =>
  unfold nZ at a;split at a
  ·rename_i h;by_cases b:j=k
   ·rw[b];exact h.2
   ·exact d a o_
  ·omega
def uV(D:o!)(N:Nat):Nat:=nZ (cN D N (hb D)) (Frm.upto (cN D N (hb D))) (32*N) - Frm.upto (cN D N (hb D))
def LS.open(N:Nat)(D:o!)(F:Int):LS :=
 ⟨N,sp D (dQ N (hb D)+Frm.upto (cN D N (hb D))) (List.replicate (uV D N) 0),Frm.iH (cN D N (hb D)),(Frm.iH (cN D N (hb D))).length,Frm.upto (cN D N (hb D)),[],false,fO F (Frm.upto (cN D N (hb D))) (uV D N)⟩
def aMu{a:aG}{H':List aG}(h:eQ a [a] H H'):H'=H:=by
 induction h with
 |aR=>rfl
 |bJ _ b=>rw[b]
def P?{α:Type}(l:List α)(k:Nat):Sep.lay l k []=l:=by unfold Sep.lay;simp
def S.YA{E:Env}{α:Type}{T:Ty α}{A:n!}{n c:Nat}{l:List α}{F:Nat->p!}{o:Oper}{H':List aG}{x:r!}{z:α}{m:Nat}(e:o.op=.call { callee:=.builtin .clear,args:=#[x],argTypes:=#[t] })(g:ev F x=.slice (if c=k then A else A.map (·.add (k*T.size))) m (c - k))
  (f:prog.underlying t=some (.slice T.tid)) (s:T.val z=T.zero) (b:k+m<=n) (d:eQ (own T A n c l) [own T A n c (Sep.lay l k (List.replicate m z))] H H'):dF prog N E F H o λr h=>r=.tuple #[]/\h=H':=by
 by_cases i:m=0
 ·subst i;rw[List.replicate_zero,P?] at d;rw[aMu d];intro a u p q v w j;unfold Oper.wp;rw[p.eval,V.X9 e g f];exact j _ _ _ ⟨rfl,rfl⟩ q
 ·exact S.YB e g f s b o_ d
section
variable (E:Env) (gd_ N:Nat) (aO wr:Int) (A:n!) (n c:Nat) (l:List mF)
def aPo(hnl:n=l.length)(hN:n=2*N+1)(hN0:1<=N)(hN1:N<=64)(ha : -1<=aO)(ha2:aO<=9223372036854775807)(hw:0<=wr)(hwr:wr<=90000000000000)(hcut:jR aO (Frm.upto (cN (flat l) N (hb (flat l)))) (uV (flat l) N)=false) :
  aF prog E 167 #[.pointer (some ⟨gd_,0,none⟩)] (lN gd_ true false aO wr A n c l) λe H'=>∃(g:Nat) (w:WL),e=.returned (.tuple #[.pointer (some ⟨g,0,none⟩),.bool true])/\w.ok/\w.s=LS.open N (flat l) aO/\w.wr<=wr+2048/\w.m<=4*N/\H'=qN g gd_ w:=by
 have hmax:=cS;have hn:n<=256:=o_;have hl0:0<l.length:=o_;have hD:(flat l).length=32*(2*N+1):=by rw[Ai];omega
 unfold LS.open;have⟨h,hh⟩:∃h,hb (flat l)=h:=⟨_,rfl⟩;have hh1:h<=1:=by rw[<-hh];exact Am _
 have hot:uV (flat l) N=nZ (cN (flat l) N h) (Frm.upto (cN (flat l) N h)) (32*N) - Frm.upto (cN (flat l) N h):=by unfold uV;rw[hh]
 have hXl:=An (D:=flat l) hD hh1;rw[hh] at hcut⊢;have⟨X,hX⟩:∃X,cN (flat l) N h=X:=⟨_,rfl⟩;rw[hX] at hcut hot hXl⊢;have hff:=Rb X;have hfc:=Frm.Ra X;have⟨p,hp⟩:∃p,Frm.upto X=p:=⟨_,rfl⟩;rw[hp] at hcut hot hff⊢;have⟨e0,he0⟩:∃e,nZ X p (32*N)=e:=⟨_,rfl⟩;rw[he0] at hot;rw[hot] at hcut⊢;have hpe:p<=e0:=by rw[<-he0];exact VM (by have:=hff.2.2;omega)
 have heN:e0<=32*N:=by rw[<-he0];exact VN _ _ _
 have hrem:(n:Int).tmod 2=1:=by rw[Int.tmod_eq_emod_of_nonneg o_];omega
 have hquo:IntKind.i64.wrap ((n:Int).tdiv 2)=(N:Int):=by rw[PG o_,dY _ o_];omega
 refine x_ func167 ntmps167 ?_;refine A_ (λM=>aLt M gd_ true false aO wr A n c hn) ?_;refine A_ (λM=>MR M gd_ true false aO wr A n c) ?_;intros;rename_i g5;refine rB (l_ [0,1,2,3,4,5,6,7] (g_ 8 (g_ 9 (n_ 10 .nil)))) ([aE g5 262 [.pointer (some ⟨gd_,0,none⟩),a! (N:Int),.slice none 0 0,a! 0,a! 0,.slice none 0 0]]) (c_ ?_);refine eI (λM=>LB M gd_ N aO wr A n c l hn hl0 hnl) ?_;rw[hh];refine e_ ?_;refine eI (λM=>Vr M gd_ N aO wr A n c l h hn hnl hh1 hN) ?_;rw[hX];rintro e H' ⟨O,d,rfl,⟨hd1,hd2⟩,rfl⟩;refine c_ ?_;refine cU (λM h1=>Wc M O (32*N) d X h1 o_) ?_;rw[hp];rintro e H' ⟨O2,co,xs,rfl,rfl,hxs⟩;refine gk bU ?_;have hxl:xs.length=(Frm.iH X).length:=by rw[<-hxs,fB]
 have hxm:xs.length<=maxLen:=o_;refine L.fact (p:=∀x∈xs,x.n=x.b.length) (λw hw x hx=>?_) λhwide=>?_
 ·obtain⟨i,hi,rfl⟩:=oV hx;exact((eE.aT (f:=jF) aV (bS hi) rfl) w hw).1
 repeat ((fail_if_success (refine C.seq (x:=Code.region 8 _ _) ?_));first|refine mV ?_|refine tU ?_|intro _|refine Dr.two ?_ ?_)
 refine C.cut (X:=Unit) (λ_=>[(5,.pointer (some ⟨g5,0,none⟩)),(6,.slice O (32*N) d),(7,a! ((32*N:Nat):Int))]) (λ_=>[own bH O (32*N) d X,aE g5 262 [.pointer (some ⟨gd_,0,none⟩),a! (N:Int),.slice O2 xs.length co,a! (xs.length:Int),a! (p:Int),.slice none 0 0],own kC O2 xs.length co xs,aT jF xs,oI gd_ true false aO wr A n c,own qK A n c l]) (λ_=>True) ?_ ?_
 ·refine c_ ?_;exact⟨(),aK,aC,trivial⟩
 rintro - F0 -;refine C.cut (X:=Unit) (λ_=>[(5,.pointer (some ⟨g5,0,none⟩)),(6,.slice O (32*N) d),(7,a! e0)]) (λ_=>[own bH O (32*N) d X,aE g5 262 [.pointer (some ⟨gd_,0,none⟩),a! (N:Int),.slice O2 xs.length co,a! (xs.length:Int),a! (p:Int),.slice none 0 0],own kC O2 xs.length co xs,aT jF xs,oI gd_ true false aO wr A n c,own qK A n c l]) (λ_=>True) ?_ ?_
 ·refine c_ ?_;refine C.loop (X:=Nat) (λk=>[(5,.pointer (some ⟨g5,0,none⟩)),(6,.slice O (32*N) d),(7,a! k)])
   (λ_=>[own bH O (32*N) d X,aE g5 262 [.pointer (some ⟨gd_,0,none⟩),a! (N:Int),.slice O2 xs.length co,a! (xs.length:Int),a! (p:Int),.slice none 0 0],own kC O2 xs.length co xs,aT jF xs,oI gd_ true false aO wr A n c,own qK A n c l])
   (λk=>p<=k/\k<=32*N/\nZ X p k=e0) (λk=>k) (32*N) aK aC ⟨by have:=hff.2.2;omega,bM _,he0⟩ ?_
  rintro k F ⟨hk0,hk1,hk2⟩;by_cases hlt:p<k
  ·obtain⟨k',rfl⟩:∃k',k=k'+1:=⟨k - 1,o_⟩;have⟨x,hx⟩:∃x,X[k']?=some x:=⟨_,bS o_⟩;have hsub:IntKind.i64.wrap (((k'+1:Nat):Int) - 1)=(k':Int):=by rw[dY _ o_];omega
   by_cases hz:x=0
   ·have ht:decide ((x.toNat:Int)=0)=true:=by rw[hz];rfl
    have hte:nZ X p k'=e0:=by rw[<-hk2];conv=>rhs;unfold nZ;rw[c! ⟨hlt,by rw[hx,hz]⟩]
    refine c_ ?_;exact⟨k',aK,aC,⟨o_,o_,hte⟩,o_⟩
   ·have hx0:x.toNat≠0:=λh=>hz (by rw[<-Ch,h];rfl);have ht:decide ((x.toNat:Int)=0)=false:=e! o_;have hte:k'+1=e0:=by
     rw[<-hk2];unfold nZ;rw[b! (λh=>hz (by have:=h.2;rw[hx] at this;exact iN this))]
    subst hte;refine c_ ?_;exact⟨(),aK,aC,trivial⟩
  obtain rfl:k=p:=o_;have hte:k=e0:=by
   rw[<-hk2];cases k with
   |zero=>rfl
   |succ k=>unfold nZ;rw[b! (λh=>i! h.1 (Nat.lt_irrefl _))]
  subst hte;refine c_ ?_;exact⟨(),aK,aC,trivial⟩
 rintro - F -;have hmx:max ((e0:Nat):Int) ((p:Nat):Int)=((e0:Nat):Int):=o_;refine c_ ?_;refine rA (l_ [0,1,2,3,4,5,6,7,8,9,10,11,12] .nil) ?_;repeat ((fail_if_success (refine Dr.all (i:=11) ?_));first|refine w_ ?_|refine tU ?_|intro _)
 rw[hmx];refine c_ ?_;have hcont:(((Sep.lay X p (List.replicate (e0 - p) 0)).take e0).drop p)=List.replicate (e0 - p) 0:=by
  unfold Sep.lay;have h1:(X.take p).length=p:=by rw[dR];omega
  have h2:(X.take p++List.replicate (e0 - p) (0:UInt8)).length=e0:=by rw[bR,h1,rR];omega
  rw[qT h2,rQ h1]
 refine L.DR (S.YA (T:=bH) (A:=O) (n:=32*N) (c:=d) (l:=X) (z:=0) (k:=p) (m:=e0 - p) rfl rfl rfl rfl o_ gR) ?_;rintro _ _ ⟨rfl,rfl⟩;refine c_ ?_;refine rB (l_ [0,1,2,3,4,5,6,7,9,10,11,12,13] (g_ 8 (g_ 14 (n_ 15 .nil)))) ([aE g5 262 [.pointer (some ⟨gd_,0,none⟩),a! (N:Int),.slice O2 xs.length co,a! (xs.length:Int),a! (p:Int),.slice none 0 0]]) (c_ ?_);refine eI (λM=>LB M gd_ N aO wr A n c l hn hl0 hnl) ?_;rw[hh];refine e_ ?_;have hpl:p+(((Sep.lay X p (List.replicate (e0 - p) 0)).take e0).drop p).length<=32*N:=by rw[hcont,rR];omega
 refine cg rfl sD bB sK aH (λM hE=>LD M gd_ N aO wr A n c l h p (if d=p then O else O.map (·.add (p*bH.size))) (e0 - p) (d - p) (((Sep.lay X p (List.replicate (e0 - p) 0)).take e0).drop p) (Rd.cut (Sub.own (n:=32*N) hE aV) hpe heN) hn hnl hh1 hN hN1 ha ha2 hw hwr hpl) ?_;unfold Ey;rw[hcont,rR,hcut,Fj hcut,fX (by rw[rR];exact bM _)];rintro e H' ⟨l',wr',rfl,hl',hfl',hw1,hw2,rfl⟩;refine c_ ?_;have hge:=EC ha p (e0 - p);have hle:fO aO p (e0 - p)<=9223372036854775807:=by unfold fO;split;omega;split<;>omega
 have hWH:qN g5 gd_ ⟨N,O2,xs.length,co,xs,xs.length,p,none,0,0,[],false,fO aO p (e0 - p),wr',A,n,c,l'⟩=[aE g5 262 [.pointer (some ⟨gd_,0,none⟩),a! (N:Int),.slice O2 xs.length co,a! (xs.length:Int),a! (p:Int),.slice none 0 0],own kC O2 xs.length co xs,aT jF xs,own bH none 0 0 [],oI gd_ true false (fO aO p (e0 - p)) wr' A n c,own qK A n c l']:=rfl;refine DJ (aB.mR bH none) ?_;refine DJ (H1:=qN g5 gd_ ⟨N,O2,xs.length,co,xs,xs.length,p,none,0,0,[],false,fO aO p (e0 - p),wr',A,n,c,l'⟩) (by rw[hWH];exact aC) ?_;have hok:∀x∈xs,x.n=x.b.length/\x.b.length<=4096:=λx hx=>⟨hwide x hx,(hff.2.1 x.b (by rw[<-hxs];exact xV hx)).2⟩
 exact uX rfl aJ aJ aC (⟨g5,_,rfl,⟨rfl,rfl,hnl.trans hl'.symm,hN0,hN1,hN,hge,hle,by dsimp only;omega,by dsimp only[List.length_nil];omega,by dsimp only;omega,bM _,hok⟩,by unfold WL.s;dsimp only;rw[hfl',hxs,hxl],by dsimp only;omega,by dsimp only;omega,rfl⟩)
end
def Rp(d:1<=o)(a:o+x.length<=D.length):(sp D o x).headD 0=D.headD 0:=by
 have h:=BH a 0;rw[c! o_] at h;cases c:sp D o x with
 |nil=>have:=uZ a;rw[c] at this;simp at this;omega
 |cons y t =>
  cases b:D with
  |nil=>rw[b] at a;simp at a;omega
  |cons z u=>rw[c,b] at h;injection h
theorem C4(b:1<=o)(a:o+x.length<=D.length):hb (sp D o x)=hb D:=by unfold hb;rw[Rp b a]
def Vb(b:1<=o)(a:o+x.length<=D.length):tx (sp D o x)=tx D:=by unfold tx;rw[Rp b a]
abbrev sY(s:LS):o!:=sp s.D (dQ s.N (1 - hb s.D)+0) ((List.replicate (32*s.N) 0).take (lq s.aO 0 (32*s.N)))
abbrev rK(s:LS):Int:=fO s.aO 0 (32*s.N)
abbrev rJ(s:LS)(b:o!):o!:=sp (sY s) (dQ s.N (1 - hb s.D)+0) ((Frm.fr b).take (lq (rK s) 0 (b.length+7)))
abbrev vA(s:LS)(b:o!):Int:=fO (rK s) 0 (b.length+7)
abbrev pG(s:LS)(b:o!):o!:=sp (rJ s b) 0 (if wk (vA s b)=0 then[] else[tx s.D])
def LS.swap(s:LS)(b:o!):Int×LS :=
 if b.length=0 then(4,s) else if 4096<b.length then(5,s) else if 32*s.N<b.length+7 then(10,s) else if s.dead=true then(19,s)
 else if jR s.aO 0 (32*s.N)=true then(19,⟨s.N,sY s,s.bT,s.dP,s.pos,s.cY,true,rK s⟩)
 else if jR (rK s) 0 (b.length+7)=true then(19,⟨s.N,rJ s b,s.bT,s.dP,s.pos,s.cY,true,vA s b⟩)
 else if oS (vA s b)=true then(19,⟨s.N,pG s b,s.bT,s.dP,s.pos,s.cY,true,pQ (vA s b)⟩)
 else(0,⟨s.N,pG s b,[b],1,b.length+7,[],false,pQ (vA s b)⟩)
section
variable (E:Env) (g gd_:Nat) (w:WL)
def aKi(N:Nat)(a wr:Int)(A:n!)(n c:Nat)(l:List mF)(h:Nat)(o:h=1 - hb (flat l))(q:n<=256)(p:0<l.length)(f:n=l.length)(m : -1<=a)(d:a<=9223372036854775807)(r:0<=wr)(i:wr<=100000000000000) :
  aF prog E 262 #[Hq gd_ N,a! (h:Int)] (lN gd_ true false a wr A n c l) λe k=>∃j b,e=.returned (.bool (!oS a))/\j.length=l.length/\flat j=sp (flat l) 0 (if wk a=0 then[] else[tx (flat l)])/\wr<=b/\b<=wr+32/\k=lN gd_ true (oS a) (pQ a) b A n c j:=by
 subst o;exact aGk E gd_ N a wr A n c l q p f m d r i
def HR(h:F<=9223372036854775807)(a len:Nat):fO F a len<=9223372036854775807:=by unfold fO;split;omega;split<;>omega
def Vl(a : -1<=F)(b:F<=9223372036854775807) : -1<=pQ F/\pQ F<=9223372036854775807:=by unfold pQ;split;omega;split<;>omega
def aIa(h:w.ok)(h6:w.wr<=89000000000000)(X:n!)(nx cx:Nat)(b:o!)(hr:Rd E bH X nx cx b) :
  aF prog E 192 #[.pointer (some ⟨g,0,none⟩),.slice X nx cx] (qN g gd_ w) (AT g gd_ w (w.s.swap b) 4128):=by
 have e6:=cS;have b6:=hr.len;have g1:=hr.cap;have A:=h.n0;have k:=h.n1;have a:=h.len;have R:=h.hk;have t:=h.fit;have c:w.k<=256:=o_;have c9:0<w.jG.length:=o_;have hD:(flat w.jG).length=32*(2*w.N+1):=by rw[Ai];omega
 have d:∀z:Int,AT g gd_ w (z,w.s) 4128 (.returned (a! z)) (qN g gd_ w):=λz=>⟨w,rfl,h,rfl,o_,o_,rfl⟩
 unfold LS.swap;have c6:w.s.N=w.N:=rfl;have c7:w.s.dead=w.dead:=rfl;rw[c6,c7];have eN:IntKind.i64.wrap ((w.N:Int)*32)=((32*w.N:Nat):Int):=by rw[dY _ o_];omega
 refine x_ func192 ntmps192 ?_;refine A_ (λM=>IS M g gd_ w) ?_;by_cases h0:b.length=0
 ·rw[c! h0];obtain rfl:nx=0:=o_;refine A_ (λM=>Tv M X cx) ?_;exact dS (d 4)
 rw[b! h0];by_cases h5:4096<b.length
 ·rw[c! h5];refine cV (λM h1=>Tw M X nx cx b h1 o_) ?_;refine c_ ?_;exact dS (d 5)
 rw[b! h5];refine cU (λM h1=>Fz M X nx cx b h1 o_ o_) ?_;rintro e H' ⟨A1,c1,rfl,rfl⟩;refine gk bU ?_;have g5:nx+7<=maxLen:=o_;by_cases b7:32*w.N<b.length+7
 ·rw[c! b7];have ht:decide (((32*w.N:Nat):Int)<((nx+7:Nat):Int))=true:=d! o_;refine c_ ?_;exact dS (d 10)
 rw[b! b7];have ht:decide (((32*w.N:Nat):Int)<((nx+7:Nat):Int))=false:=e! o_;refine c_ ?_;refine aU (λM=>MR M gd_ true w.dead w.aO w.wr w.A w.k w.c) ?_;rcases tF w.dead with hd|hd
 ·rw[c! hd];refine e_ ?_;exact dS (d 19)
 rw[b! (by rw[hd];exact lA)];rintro e H' ⟨rfl,rfl⟩;rw[hd];refine c_ ?_;refine aP (λM=>LB M gd_ w.N w.aO w.wr w.A w.k w.c w.jG c c9 R) ?_;have g0:=Am (flat w.jG);have⟨q,hq⟩:∃q,1 - hb (flat w.jG)=q:=⟨_,rfl⟩;have P:q<=1:=o_;have e7:IntKind.i64.wrap (1 - ((hb (flat w.jG):Nat):Int))=(q:Int):=by rw[dY _ o_];omega
 have g2:32<=dQ w.N q/\dQ w.N q+32*w.N<=32*(2*w.N+1):=by
  unfold dQ;have:q*w.N<=1*w.N:=oC _ P;omega
 refine c_ ?_;refine rB (l_ [0,1,2,3,4,5,6,7,8,9,10] (g_ 11 (g_ 12 (l_ [13,14,15,16,17,18,19,20] (g_ 21 (l_ [22,23,24,25,26,27,28,29] (g_ 30 (l_ [31,32] .nil)))))))) ([xL g gd_ w]) (c_ ?_);intros;rename_i gz;have e1:List.replicate (32*w.N) KJ=List.replicate (32*w.N) (0:UInt8):=rfl;have e5:(List.replicate (32*w.N) (0:UInt8)).length=32*w.N:=rR;have hz:0+(List.replicate (32*w.N) KJ).length<=32*w.N:=by rw[rR];omega
 have c0:w.wr<=90000000000000:=o_;refine cg rfl sD bB sK aH (λM hE=>LD M gd_ w.N w.aO w.wr w.A w.k w.c w.jG q 0 (some ⟨gz,0,none⟩) (32*w.N) (32*w.N) (List.replicate (32*w.N) KJ) (Sub.own hE aV) c R P a k h.a0 h.a1 h.w0 c0 hz) ?_;unfold Ey;rw[e1,e5];have N:sY w.s=sp (flat w.jG) (dQ w.N q+0) ((List.replicate (32*w.N) 0).take (lq w.aO 0 (32*w.N))):=by rw[<-hq];rfl
 have W:rK w.s=fO w.aO 0 (32*w.N):=rfl;have eA:w.s.aO=w.aO:=rfl;have m:=EC h.a0 0 (32*w.N);have n:=HR h.a1 0 (32*w.N);rintro e H' ⟨U,B,rfl,e0,i,g7,g8,rfl⟩;refine gd bU aC ?_;rw[<-N] at i;rw[eA];rcases tF (jR w.aO 0 (32*w.N)) with hc|hc
 ·rw[c! hc,hc];refine c_ ?_;exact aX rfl aJ aC (⟨⟨w.N,w.R,w.m,w.rc,w.bT,w.dP,w.pos,w.P,w.p,w.pc,w.cY,true,fO w.aO 0 (32*w.N),B,w.A,w.k,w.c,U⟩,rfl,⟨h.hm,h.hp,R.trans e0.symm,A,k,a,m,n,by have:=h.w0;dsimp only;omega,t,h.bT,h.dP,h.wide⟩,by rw[W];unfold WL.s;dsimp only;rw[i];rfl,by dsimp only;omega,by dsimp only;omega,rfl⟩)
 rw[b! (by rw[hc];exact lA),hc];rw[W];have Z:vA w.s b=fO (fO w.aO 0 (32*w.N)) 0 (b.length+7):=rfl;have O:rJ w.s b=sp (flat U) (dQ w.N q+0) ((Frm.fr b).take (lq (fO w.aO 0 (32*w.N)) 0 (b.length+7))):=by rw[i,<-hq];rfl
 have a9:hb (flat U)=hb (flat w.jG):=by
  rw[i,N];exact C4 o_ (by rw[hD,dR,rR];omega)
 have b8:tx (flat U)=tx (flat w.jG):=by
  rw[i,N];exact Vb o_ (by rw[hD,dR,rR];omega)
 have e2:0<=B:=by have:=h.w0;omega
 generalize fO w.aO 0 (32*w.N)=F1 at *;rw[Z];have a8:(flat U).length=32*(2*w.N+1):=by rw[Ai];omega
 have e4:0+(Frm.fr b).length<=32*w.N:=by rw[Frm.jO];omega
 have c2:B<=90000000000000:=o_;have b1:w.k=U.length:=o_;refine c_ ?_;refine cg rfl sD bB sK aH (λM hE=>LD M gd_ w.N F1 B w.A w.k w.c U q 0 A1 (nx+7) c1 (Frm.fr b) (Sub.own hE aV) c b1 P a k m n e2 c2 e4) ?_;unfold Ey;rw[Frm.jO];have o:=EC m 0 (b.length+7);have p:=HR n 0 (b.length+7);rintro e H' ⟨K,D,rfl,g3,j,g9,h2,rfl⟩;refine gd bU aC ?_;rw[<-O] at j;rcases tF (jR F1 0 (b.length+7)) with r|r
 ·rw[c! r,r];refine c_ ?_;exact aX rfl aJ aC (⟨⟨w.N,w.R,w.m,w.rc,w.bT,w.dP,w.pos,w.P,w.p,w.pc,w.cY,true,fO F1 0 (b.length+7),D,w.A,w.k,w.c,K⟩,rfl,⟨h.hm,h.hp,by dsimp only;omega,A,k,a,o,p,by dsimp only;omega,t,h.bT,h.dP,h.wide⟩,by unfold WL.s;dsimp only;rw[j];rfl,by dsimp only;omega,by dsimp only;omega,rfl⟩)
 rw[b! (by rw[r];exact lA),r];have b0:q=1 - hb (flat K):=by
  rw[j,O,C4 o_ (by rw[a8,dR,Frm.jO];omega),a9];exact hq.symm
 have b9:tx (flat K)=tx (flat w.jG):=by
  rw[j,O,Vb o_ (by rw[a8,dR,Frm.jO];omega),b8]
 generalize fO F1 0 (b.length+7)=H at *;have c5:pG w.s b=sp (flat K) 0 (if wk H=0 then[] else[tx (flat K)]):=by rw[b9,j];unfold pG;rw[Z];rfl
 have e3:0<=D:=o_;have c3:D<=100000000000000:=o_;have b5:w.k=K.length:=o_;have b2:0<K.length:=o_;refine c_ ?_;refine eI (λM=>aKi M gd_ w.N H D w.A w.k w.c K q b0 c b2 b5 o p e3 c3) ?_;have y:=Vl o p;rintro e H' ⟨l3,v,rfl,g4,u,h3,h4,rfl⟩;refine gd bU aC ?_;rw[<-c5] at u;rcases tF (oS H) with s|s
 ·rw[c! s,s];refine c_ ?_;exact aX rfl aJ aC (⟨⟨w.N,w.R,w.m,w.rc,w.bT,w.dP,w.pos,w.P,w.p,w.pc,w.cY,true,pQ H,v,w.A,w.k,w.c,l3⟩,rfl,⟨h.hm,h.hp,by dsimp only;omega,A,k,a,y.1,y.2,by dsimp only;omega,t,h.bT,h.dP,h.wide⟩,by unfold WL.s;dsimp only;rw[u];rfl,by dsimp only;omega,by dsimp only;omega,rfl⟩)
 rw[b! (by rw[s];exact lA),s];refine c_ ?_;intros;rename_i F J k1 k2;refine L.lI sD (S.pY (T:=kC) (e:=(⟨F,nx,J,b⟩:Oc)) rfl rfl rfl rfl sD) ?_;rintro _ _ ⟨_,rfl,rfl⟩;refine c_ ?_;rename_i g6;refine DJ (aB.mR bH none) ?_;refine DJ (aB.pK jF) ?_;refine DJ (aB.push (f:=jF) (l:=[]) (x:=⟨F,nx,J,b⟩) aH) ?_;have c8:qN g gd_ ⟨w.N,some ⟨g6,0,none⟩,1,1,[(⟨F,nx,J,b⟩:Oc)],1,nx+7,none,0,0,[],false,pQ H,v,w.A,w.k,w.c,l3⟩=[aE g 262 [.pointer (some ⟨gd_,0,none⟩),a! (w.N:Int),.slice (some ⟨g6,0,none⟩) 1 1,a! 1,a! ((nx+7:Nat):Int),.slice none 0 0],own kC (some ⟨g6,0,none⟩) 1 1 [(⟨F,nx,J,b⟩:Oc)],aT jF ([]++[(⟨F,nx,J,b⟩:Oc)]),own bH none 0 0 [],oI gd_ true false (pQ H) v w.A w.k w.c,own qK w.A w.k w.c l3]:=rfl;refine DJ (H1:=qN g gd_ ⟨w.N,some ⟨g6,0,none⟩,1,1,[(⟨F,nx,J,b⟩:Oc)],1,nx+7,none,0,0,[],false,pQ H,v,w.A,w.k,w.c,l3⟩) (by rw[c8];exact aC) ?_;have Q:∀x∈[(⟨F,nx,J,b⟩:Oc)],x.n=x.b.length/\x.b.length<=4096:=by
  intro x hx;rw[eM] at hx;subst hx;exact⟨b6,d_⟩
 exact aX rfl aJ aC (⟨⟨w.N,some ⟨g6,0,none⟩,1,1,[(⟨F,nx,J,b⟩:Oc)],1,nx+7,none,0,0,[],false,pQ H,v,w.A,w.k,w.c,l3⟩,rfl,⟨rfl,rfl,by dsimp only;omega,A,k,a,y.1,y.2,by dsimp only;omega,by dsimp only[List.length_nil];omega,by dsimp only[List.length_cons,List.length_nil];omega,bM _,Q⟩,by unfold WL.s;dsimp only;rw[u,b6];rfl,by dsimp only;omega,by dsimp only;omega,rfl⟩)
end
end
section
open Go.RowKit Reg Oct
open Mem hiding Rd
def rZ(b:o!):aN:=⟨aW b 0 1,(oK ((b.drop 1).take 13)).getD FM,aW b 14 1,aW b 15 4,decide (Go.bits .and .i64 (aW b 24 1:Nat) 1≠0),decide (Go.bits .and .i64 (aW b 24 1:Nat) 2≠0),aW b 19 1,aW b 20 4⟩
def Bn(b:o!):Option aN:=if b.length=27/\(rZ b).may=true/\(rZ b).put=b then some (rZ b) else none
def GD(E:Env)(h g:Nat)(s s':Bool×o!)(w:Nat)(v:Int)(l:dW s w=s')(m:iG (vl s w)=v)(A:n!)(n c:Nat)(W:Int)(k:W=w)(p:1<=w/\w<=8)(x:Rd E bH A n c s.2) :
  aF prog E 380 #[a! W,.pointer (some ⟨h,0,none⟩)] [aE h 276 [.pointer (some ⟨g,0,none⟩)],gA g true s.1 A n c] (Iz h g A n c s.2 s' (a! v)):=by
 subst l m;have f:wid W=(w:Int):=by unfold wid;rw[b! o_];exact k
 have i:=oQ s w;have d:vl s w<18446744073709551616:=Cd i (iR (Gj o_ p.2) sD);have u:=GJ d;refine x_ func380 ntmps380 ?_
 refine cU (λM=>zB M g s.1 A n c s.2 W) ?_;have⟨o,j⟩:∃o,nx s.1 s.2 (w:Int)=(o,dW s w):=⟨_,rfl⟩
 have a:=II s w;rw[j] at a;rw[f,j];rintro e r ⟨q,y,t,rfl,b,rfl⟩;dsimp only at a b⊢;rw[a];refine c_ ?_
 exact dS ⟨_,_,_,rfl,b,rfl⟩
def RA(E:Env)(A:n!)(n c:Nat)(b:o!)(hr:Rd E bH A n c b)(hl:n=27) :
  aF prog E 367 #[.slice A n c] [] λe s=>e=.returned (.tuple #[.agg ((Bn b).getD JU).cs.toArray,.bool (Bn b).isSome])/\s=[]:=by
 have hn:=hr.len;have b5:=hr.cap;have U:1<=1/\1<=8:=o_;have o4:1<=4/\4<=8:=o_;have t0:=sX (l:=b) (i:=0) (w:=1) o_;rw[uG] at t0;have q0:iG (vl (false,b) 1)=(aW b 0 1:Nat):=by rw[t0.2.1];exact oO (pI (mP b 0 1) sD)
 have b1:dW (false,b) 1=(false,b.drop 1):=t0.1;have J:=sX (l:=b) (i:=14) (w:=1) o_;have X:iG (vl (false,b.drop 14) 1)=(aW b 14 1:Nat):=by rw[J.2.1];exact oO (pI (mP b 14 1) sD)
 have K:=sX (l:=b) (i:=15) (w:=4) o_;have Z:iG (vl (false,b.drop 15) 4)=(aW b 15 4:Nat):=by rw[K.2.1];exact oO (pI (mP b 15 4) sD)
 have N:=sX (l:=b) (i:=19) (w:=1) o_;have a8:iG (vl (false,b.drop 19) 1)=(aW b 19 1:Nat):=by rw[N.2.1];exact oO (pI (mP b 19 1) sD)
 have O:=sX (l:=b) (i:=20) (w:=4) o_;have a9:iG (vl (false,b.drop 20) 4)=(aW b 20 4:Nat):=by rw[O.2.1];exact oO (pI (mP b 20 4) sD)
 have P:=sX (l:=b) (i:=24) (w:=1) o_;have b0:iG (vl (false,b.drop 24) 1)=(aW b 24 1:Nat):=by rw[P.2.1];exact oO (pI (mP b 24 1) sD)
 have W:nx false (b.drop 1) 13=(some ((b.drop 1).take 13),false,b.drop 14):=by
  have:=DG (l:=b.drop 1) (k:=13) (by simp;omega);rw[pU] at this;exact this
 have D:((b.drop 1).take 13).length=13:=by simp;omega
 have F:(b.drop 1).length<=140737488355328:=by simp;omega
 refine x_ func367 ntmps367 ?_;intros;refine cU (λM h1=>AJ M A n c b h1 o_) ?_;rintro e s ⟨g,A0,c0,rfl,h5,h6,rfl⟩;refine gk bU ?_;unfold nQ;refine c_ ?_;intros;rename_i b2 x;refine L.step sD (S.fN rfl cQ rfl rfl func380 q_ rfl aH (λM u=>GD M x g (false,b) (false,b.drop 1) 1 _ b1 q0 A0 n c0 1 rfl U bK) ?_);rintro e s ⟨A1,n1,c1,rfl,a,rfl⟩;dsimp only at a⊢;refine c_ ?_;intros;refine cl sD sK aH (λM u=>Cm M g false A1 n1 c1 (b.drop 1) 13 (a _ bK) F) ?_;rw[W];rintro e s ⟨A2,n2,c2,B,d,rfl,f,H,b6,rfl⟩;dsimp only at f;simp only[oD,FB] at H⊢;rw[D] at H⊢;refine c_ ?_;have v:rZ b=⟨aW b 0 1,(oK ((b.drop 1).take 13)).getD FM,aW b 14 1,aW b 15 4,decide (Go.bits .and .i64 (aW b 24 1:Nat) 1≠0),decide (Go.bits .and .i64 (aW b 24 1:Nat) 2≠0),aW b 19 1,aW b 20 4⟩:=rfl;refine cl sD sK aH (λM u=>RO M B 13 d _ _ rfl bK rfl) ?_;generalize (oK ((b.drop 1).take 13)).getD FM=y at *;refine e_ ?_;refine L.step sD (S.fN rfl cQ rfl rfl func380 q_ rfl aH (λM u=>GD M x g (false,b.drop 14) (false,b.drop 15) 1 _ J.1 X A2 n2 c2 1 rfl U (f _ (a _ bK))) ?_);rintro e s ⟨A3,n3,c3,rfl,j,rfl⟩;dsimp only at j⊢;refine c_ ?_;refine L.step sD (S.fN rfl cQ rfl rfl func380 q_ rfl aH (λM u=>GD M x g (false,b.drop 15) (false,b.drop 19) 4 _ K.1 Z A3 n3 c3 4 rfl o4 (j _ (f _ (a _ bK)))) ?_);rintro e s ⟨A4,n4,c4,rfl,m,rfl⟩;dsimp only at m⊢;refine c_ ?_;refine L.step sD (S.fN rfl cQ rfl rfl func380 q_ rfl aH (λM u=>GD M x g (false,b.drop 19) (false,b.drop 20) 1 _ N.1 a8 A4 n4 c4 1 rfl U (m _ (j _ (f _ (a _ bK))))) ?_);rintro e s ⟨A5,n5,c5,rfl,q,rfl⟩;dsimp only at q⊢;refine c_ ?_;refine L.step sD (S.fN rfl cQ rfl rfl func380 q_ rfl aH (λM u=>GD M x g (false,b.drop 20) (false,b.drop 24) 4 _ O.1 a9 A5 n5 c5 4 rfl o4 (q _ (m _ (j _ (f _ (a _ bK)))))) ?_);rintro e s ⟨A6,n6,c6,rfl,t,rfl⟩;dsimp only at t⊢;refine c_ ?_;refine L.step sD (S.fN rfl cQ rfl rfl func380 q_ rfl aH (λM u=>GD M x g (false,b.drop 24) (false,b.drop 25) 1 _ P.1 b0 A6 n6 c6 1 rfl U (t _ (q _ (m _ (j _ (f _ (a _ bK))))))) ?_);rintro e s ⟨A7,n7,c7,rfl,z,rfl⟩;dsimp only at z⊢;refine c_ ?_;have o:Bn b=if b.length=27/\(rZ b).may=true/\(rZ b).put=b then some (rZ b) else none:=rfl;refine rA (l_ [0,3,4] (g_ 1 (l_ [2,5] .nil))) (c_ ?_);cases Q:(rZ b).may
 ·rw[b! (λh=>by rw[Q] at h;cases h.2.1)] at o;rw[o];have hd:decide (([]:o!)≠b)=true:=d! (λh=>by rw[<-h] at hn;simp at hn;omega);have r:=λM=>RG M (rZ b) Q;rw[v] at r;refine G_ r ?_
  exact lD
 ·have r:=λM=>RH M (rZ b) Q;generalize b7:(rZ b).put=p at *;rw[v] at r;refine eI r ?_;rintro e s ⟨A9,c9,rfl,rfl⟩;refine gd bU aC ?_;refine Dr.more (Hk':=_) aC aB.refl ?_;by_cases R:p=b
  rw[c! ⟨o_,Q,R⟩] at o;rw[o];have hd:decide (p≠b)=false:=by simp[R]
  simp only[oD,FB];rw[v];rotate_left;rw[b! (λh=>R h.2.2)] at o;rw[o];have hd:decide (p≠b)=true:=by simp[R]
  all_goals
   refine c_ ?_;exact lD
end
section
open Go.RowKit Oct Dly
def Qz(l:o!):(yE l).ok:=by
 have b:=mP l 0 1;have c:=mP l 1 1;have a:=OO (k:=aW l 2 8) (mP l 2 8);have d:=mP l 10 1;have e:=mP l 11 2;refine⟨?_,?_,a,?_,?_⟩;all_goals (simp only[yE];unfold bQ;omega)
theorem Ts(h:l.length=13):(yE l).put=l:=by
 have a:tA (iG (aW l 2 8))=aW l 2 8:=Ve (mP l 2 8)
 grind [List.drop_drop,List.take_append_drop,List.take_of_length_le,bE.put,yE,Int.toNat_natCast,pX]
theorem Yv(i:f.check=0)(j:bQ f.n):yE f.put=f:=by
 have⟨⟨n,k1⟩,⟨b,l⟩,⟨k,o⟩,s0,p⟩:=bE.jZ i;have m:=K8 f.n;have c:aW f.put 0 1=f.kind.toNat:=kK (a:=[]) rfl o_;have d:aW f.put 1 1=f.a.toNat:=by
  grind [bE.put,kK,eJ]
 have e:aW f.put 2 8=tA f.n:=by
  grind [bE.put,kK,eJ]
 have g:aW f.put 10 1=f.ref.rep.toNat:=by
  grind [bE.put,kK,eJ]
 have h:aW f.put 11 2=f.ref.seq.toNat:=by
  unfold bE.put;rw[<-bF,<-bF,<-bF];rw[<-aY (be f.ref.seq.toNat 2)]
  grind [kK,eJ]
 unfold yE;rw[c,d,e,g,h,Uv j];rw[pT o_,pT b,pT k,pT s0]
def RN(a:f.check=0)(b:bQ f.n):oK f.put=some f:=by
 grind [oK,Yv]
def Mj(h:oK l=some f):f=yE l/\f.check=0:=by
 grind [oK]
theorem Zd:∀k:Nat,k<=3->(decide (Go.bits .and .i64 (k:Nat) 1≠0)=decide (((k:Nat):Int) % 2=1)/\decide (Go.bits .and .i64 (k:Nat) 2≠0)=decide ((1:Int)<(k:Nat))):=by
 intro k a
 match k,a with
 |0,_=>decide
 |1,_=>decide
 |2,_=>decide
 |3,_=>decide
def zY(b:o!):aN:=⟨aW b 0 1,(oK ((b.drop 1).take 13)).getD FM,aW b 14 1,aW b 15 4,decide (((aW b 24 1:Nat):Int) % 2=1),decide ((1:Int)<(aW b 24 1:Nat)),aW b 19 1,aW b 20 4⟩
theorem RD{b:o!}(h:aW b 24 1<=3):rZ b=zY b:=by
 grind [rZ,zY,Zd]
theorem Y5{b:o!}(h:aW b 24 1<=3):(zY b).sB.toNat=aW b 24 1:=by
 grind [aN.sB,zY]
theorem Yb{b:o!}:b=(b.drop 0).take 1++((b.drop 1).take 13++((b.drop 14).take 1++((b.drop 15).take 4++((b.drop 19).take 1++((b.drop 20).take 4++((b.drop 24).take 1++b.drop 25)))))):=by
 grind [List.drop_drop,List.take_append_drop]
theorem Y8{b:o!}(h:b.length=27)(d:aW b 24 1<=3)(a:b[25]?=some 69)(c:b[26]?=some 69)(e:oK ((b.drop 1).take 13)=some f):(zY b).put=b:=by
 have⟨g,_⟩:=Mj e;have i:f.put=(b.drop 1).take 13:=by grind [Ts]
 have j:[UInt8.ofNat (aW b 24 1)]=(b.drop 24).take 1:=by grind [zS,pX]
 have k:b.drop 25=[69,69]:=by
  have⟨k1,k2⟩:=cH.1 a;have⟨k3,k4⟩:=cH.1 c;rw[lL k1,k2,lL k3,k4,Dg o_]
 grind [Yb,aW,Y5,aN.put,zY,Int.toNat_natCast,pX]
abbrev aN.front(e:aN):o!:=be e.ord.toNat 1++(e.bD.put++(be e.bI.toNat 1++(be e.last.toNat 4++(be e.back.toNat 1++be e.iY.toNat 4))))
def aN.Zt(e:aN):e.front.length=24:=by simp[eJ,bE.iP]
def aN.aOo(e:aN):e.put=e.front++(be e.sB.toNat 1++[69,69]):=by simp[aN.put,zS]
def aN.Mo(e:aN):e.sB.toNat<=3:=by grind [aN.sB]
def RS(e:aN):decide (((e.sB.toNat:Nat):Int) % 2=1)=e.dN/\decide ((1:Int)<(e.sB.toNat:Nat))=e.gone:=by
 grind [aN.sB]
def Tu(e:aN):e.put[25]?=some 69/\e.put[26]?=some 69/\aW e.put 24 1=e.sB.toNat:=by
 have a:=e.Zt;have b:=e.Mo;rw[e.aOo];generalize e.front=x at *;refine⟨?_,?_,kK a o_⟩;all_goals
  rw[wG o_,a,zS];rfl
def JT(b:o!):Option aN:=if b.length=27/\aW b 24 1<=3/\b[25]?=some 69/\b[26]?=some 69/\(oK ((b.drop 1).take 13)).isSome=true/\(zY b).may=true then some (zY b) else none
def Y0(b:o!):Bn b=JT b:=by
 unfold JT;by_cases e:b.length=27/\aW b 24 1<=3/\b[25]?=some 69/\b[26]?=some 69/\(oK ((b.drop 1).take 13)).isSome=true/\(zY b).may=true
 ·grind [Option.isSome_iff_exists,Bn,RD,Y8]
 ·rw[b! e];unfold Bn;refine b! λ⟨h,d,i⟩=>e ?_;have c:=Tu (rZ b);have j:=(rZ b).Mo;rw[i] at c;have a:aW b 24 1<=3:=by grind
  refine⟨h,a,c.1,c.2.1,?_,by rw[<-RD a];exact d⟩;cases k:oK ((b.drop 1).take 13) with
  |some f=>rfl
  |none =>
   have g:=((aN.eY _).1 d).2.1;have:(rZ b).bD=FM:=by grind [rZ]
   rw[this] at g;exact i! g sD
def Y4{e:aN}(g:e.may=true)(o:bQ e.bD.n):JT e.put=some e:=by
 have⟨⟨u,v⟩,p,⟨s0,w⟩,⟨⟨h,s⟩,_⟩,⟨r,t⟩,⟨q,k1⟩,_⟩:=(aN.eY e).1 g;have b:=Tu e;have c:=e.Mo;have i:aW e.put 0 1=e.ord.toNat:=kK (a:=[]) rfl o_;have d:(e.put.drop 1).take 13=e.bD.put:=by
  unfold aN.put;rw[rQ (eJ _ _),qT (bE.iP _)]
 have j:aW e.put 14 1=e.bI.toNat:=by
  unfold aN.put;rw[<-bF];exact kK (by simp[eJ,bE.iP]) o_
 have k:aW e.put 15 4=e.last.toNat:=by
  unfold aN.put;rw[<-bF,<-bF];exact kK (by simp[eJ,bE.iP]) o_
 have l:aW e.put 19 1=e.back.toNat:=by
  unfold aN.put;rw[<-bF,<-bF,<-bF];exact kK (by simp[eJ,bE.iP]) o_
 have m:aW e.put 20 4=e.iY.toNat:=by
  unfold aN.put;rw[<-bF,<-bF,<-bF,<-bF];exact kK (by simp[eJ,bE.iP]) o_
 have f:=RN p o;have n:zY e.put=e:=by
  unfold zY;rw[i,d,j,k,l,m,b.2.2,f,oD,(RS e).1,(RS e).2];rw[pT o_,pT o_,pT r,pT h,pT q]
 unfold JT;rw[n,d,f];exact c! ⟨e.iP,by rw[b.2.2];exact c,b.1,b.2.1,rfl,g⟩
def JS{e:aN}(a:e.may=true)(b:bQ e.bD.n):Bn e.put=some e:=by rw[Y0,Y4 a b]
end
section
open Oct
def FY(k:Int):Bool:=decide (k=1\/k=2\/k=3\/k=5\/12<=k)
def HK(k:Int):Bool:=decide (k=3\/7<=k/\k<=10)
def Jo(k:Int):Bool:=decide (k=4\/k=6\/k=10\/k=11\/k=14)
def Mu(k:Int):Bool:=decide (k=1)
def XG(b:Bool)(c:aI):aI:=match b with|true=>⟨⟨0,0⟩,0,c.kind,c.a,c.b,c.n,c.ref⟩|false=>⟨⟨0,0⟩,0,0,0,0,0,⟨0,0⟩⟩
def uR(b:Bool)(n:Int):Int:=match b with|true=>n|false=>0
def cK.bare(x:cK):cK:=⟨x.kind,uR (FY x.kind) x.r,uR (HK x.kind) x.i,uR (Jo x.kind) x.n,XG (Mu x.kind) x.c⟩
def cK.GB(x:cK):List Int:=[x.r,x.i,x.c.kind,x.c.a,x.c.b,x.c.ref.rep]
def cK.check(x:cK):Int :=
 if 1<=x.kind/\x.kind<=15 then
  if x.GB.all small=true then
   if (0<=x.c.ref.seq/\x.c.ref.seq<=65535)/\0<=x.n/\x.n<=2147483647 then
    if x.bare=x then 0 else 16
   else 4
  else 4
 else 12
def cK.jZ{x:cK}(h:x.check=0):(1<=x.kind/\x.kind<=15)/\((0<=x.r/\x.r<=255)/\(0<=x.i/\x.i<=255)/\(0<=x.c.kind/\x.c.kind<=255)/\(0<=x.c.a/\x.c.a<=255)/\(0<=x.c.b/\x.c.b<=255)/\0<=x.c.ref.rep/\x.c.ref.rep<=255)/\((0<=x.c.ref.seq/\x.c.ref.seq<=65535)/\0<=x.n/\x.n<=2147483647)/\x.bare=x:=by
 unfold cK.check at h;split at h
 ·rename_i a;split at h;all_goals grind [cK.GB,small]
 ·cases h
end
section
open Go.RowKit Reg Oct
open Mem hiding Rd
def W3:FD prog 322 [a! 0,a! 0,a! 0,a! 0,a! 0,a! 0,a! 0,a! 0,a! 0,a! 0,a! 0,a! 0,a! 0,a! 0,a! 0,a! 0] [(0,1),(1,1),(2,1),(3,1),(4,1),(5,1),(6,1),(7,1),(8,1),(9,1),(10,1),(11,1),(12,1),(13,1),(14,1),(15,1)] 1:=⟨q_,q_,rfl⟩
instance aSk:GR 322 [a! 0,a! 0,a! 0,a! 0,a! 0,a! 0,a! 0,a! 0,a! 0,a! 0,a! 0,a! 0,a! 0,a! 0,a! 0,a! 0] [(0,1),(1,1),(2,1),(3,1),(4,1),(5,1),(6,1),(7,1),(8,1),(9,1),(10,1),(11,1),(12,1),(13,1),(14,1),(15,1)] 1:=⟨W3⟩
def W5:FD prog 184 [a! 0,a! 0,a! 0,a! 0,a! 0,a! 0] [(0,1),(1,1),(2,1),(3,1),(4,1),(5,1)] 1:=⟨q_,q_,rfl⟩
instance aSu:GR 184 [a! 0,a! 0,a! 0,a! 0,a! 0,a! 0] [(0,1),(1,1),(2,1),(3,1),(4,1),(5,1)] 1:=⟨W5⟩
abbrev Zi:List Int:=[0,9,1,3,4,1,4,2,2,2,6,4,1,1,5,1]
def Aj(k:Nat):Int:=Zi.getD k 0
def Ml(E:Env)(k:Nat)(h:k<16):aF prog E 169 #[a! k] [] λe a=>e=.returned (a! (Aj k))/\a=[]:=by
 have g:([a! 0,a! 9,a! 1,a! 3,a! 4,a! 1,a! 4,a! 2,a! 2,a! 2,a! 6,a! 4,a! 1,a! 1,a! 5,a! 1]:List p!)[k]?=some (a! (Aj k)):=by
  rcases(show k=0\/k=1\/k=2\/k=3\/k=4\/k=5\/k=6\/k=7\/k=8\/k=9\/k=10\/k=11\/k=12\/k=13\/k=14\/k=15 by omega) with rfl|rfl|rfl|rfl|rfl|rfl|rfl|rfl|rfl|rfl|rfl|rfl|rfl|rfl|rfl|rfl<;>rfl
 refine x_ func169 ntmps169 ?_
 exact aS
def XT(k:Nat)(a:1<=k)(h:k<=15):Go.bits .and .i64 (Aj k) 1=(if FY k then 1 else 0)/\Go.bits .and .i64 (Aj k) 2=(if HK k then 2 else 0)/\Go.bits .and .i64 (Aj k) 4=(if Jo k then 4 else 0)/\Go.bits .and .i64 (Aj k) 8=(if Mu k then 8 else 0):=by
 rcases(show k=1\/k=2\/k=3\/k=4\/k=5\/k=6\/k=7\/k=8\/k=9\/k=10\/k=11\/k=12\/k=13\/k=14\/k=15 by omega) with rfl|rfl|rfl|rfl|rfl|rfl|rfl|rfl|rfl|rfl|rfl|rfl|rfl|rfl|rfl<;>exact⟨by decide,by decide,by decide,by decide⟩
def XL(E:Env)(x:cK)(h1:1<=x.kind)(h:x.kind<=15):aF prog E 108 #[.agg x.cs.toArray] [] λe H'=>e=.returned (.agg x.bare.cs.toArray)/\H'=[]:=by
 have⟨k,hk⟩:=zI (show 0<=x.kind by omega);have hf:=Ml E k o_;have⟨br,bi,bn,bc⟩:=XT k o_ o_;rw[<-hk] at br bi bn bc;have hk16:k<16:=o_;refine x_ func108 ntmps108 ?_;intros;rename_i g gres;refine C.cW (X:=Nat) (λg4=>[(1,.pointer (some ⟨g,0,none⟩)),(2,.pointer (some ⟨gres,0,none⟩)),(3,a! (Aj k)),(4,.pointer (some ⟨g4,0,none⟩))])
  (λg4=>[aE g 39 x.cs,aE gres 39 Ky.cs,aE g4 39 (⟨x.kind,0,0,0,⟨⟨0,0⟩,0,0,0,0,0,⟨0,0⟩⟩⟩:cK).cs]) (λ_=>True) ?_ ?_
 ·refine rA (l_ [0,1,3,4,5] (.two 2 (g_ 6 (n_ 7 (g_ 8 .nil))) 6 (g_ 2 (n_ 7 (g_ 8 .nil))))) (c_ ?_);refine Dr.two ?_ ?_;refine lC rfl sD bB sK aH (λM hE=>(by rw[hk];exact Ml M k hk16)) (e_ ?_);intros;rotate_left;refine c_ ?_;intros;refine cg rfl sD bB sK aH (λM hE=>(by rw[hk];exact Ml M k hk16)) (e_ ?_);all_goals
   exact⟨_,aK,aC,trivial⟩
 rintro g4 G -;refine C.cut (X:=Unit) (λ_=>[(1,.pointer (some ⟨g,0,none⟩)),(2,.pointer (some ⟨gres,0,none⟩)),(3,a! (Aj k)),(4,.pointer (some ⟨g4,0,none⟩))])
  (λ_=>[aE g 39 x.cs,aE gres 39 Ky.cs,aE g4 39 (⟨x.kind,uR (FY x.kind) x.r,0,0,⟨⟨0,0⟩,0,0,0,0,0,⟨0,0⟩⟩⟩:cK).cs]) (λ_=>True) ?_ ?_
 ·cases hh:FY x.kind;rw[hh,b! lA] at br;rw[show uR false x.r=0 from rfl];rotate_left;rw[hh,c! rfl] at br;rw[show uR true x.r=x.r from rfl];all_goals
   refine c_ ?_;exact⟨(),aK,aC,trivial⟩
 rintro - G -;refine C.cut (X:=Unit) (λ_=>[(1,.pointer (some ⟨g,0,none⟩)),(2,.pointer (some ⟨gres,0,none⟩)),(3,a! (Aj k)),(4,.pointer (some ⟨g4,0,none⟩))])
  (λ_=>[aE g 39 x.cs,aE gres 39 Ky.cs,aE g4 39 (⟨x.kind,uR (FY x.kind) x.r,uR (HK x.kind) x.i,0,⟨⟨0,0⟩,0,0,0,0,0,⟨0,0⟩⟩⟩:cK).cs]) (λ_=>True) ?_ ?_
 ·cases hh:HK x.kind;rw[hh,b! lA] at bi;rw[show uR false x.i=0 from rfl];rotate_left;rw[hh,c! rfl] at bi;rw[show uR true x.i=x.i from rfl];all_goals
   refine c_ ?_;exact⟨(),aK,aC,trivial⟩
 rintro - G -;refine C.cut (X:=Unit) (λ_=>[(1,.pointer (some ⟨g,0,none⟩)),(2,.pointer (some ⟨gres,0,none⟩)),(3,a! (Aj k)),(4,.pointer (some ⟨g4,0,none⟩))])
  (λ_=>[aE g 39 x.cs,aE gres 39 Ky.cs,aE g4 39 (⟨x.kind,uR (FY x.kind) x.r,uR (HK x.kind) x.i,uR (Jo x.kind) x.n,⟨⟨0,0⟩,0,0,0,0,0,⟨0,0⟩⟩⟩:cK).cs]) (λ_=>True) ?_ ?_
 ·cases hh:Jo x.kind;rw[hh,b! lA] at bn;rw[show uR false x.n=0 from rfl];rotate_left;rw[hh,c! rfl] at bn;rw[show uR true x.n=x.n from rfl];all_goals
   refine c_ ?_;exact⟨(),aK,aC,trivial⟩
 rintro - G -;unfold cK.bare;cases hh:Mu x.kind
 ·rw[hh,b! lA] at bc;refine c_ ?_;exact wR
 ·rw[hh,c! rfl] at bc;refine c_ ?_;exact wR
theorem Uj(E:Env)(x:cK):aF prog E 51 #[.agg x.cs.toArray] [] λe r=>e=.returned (a! x.check)/\r=[]:=by
 have j:x.GB.length=6:=rfl;refine x_ func51 ntmps51 ?_;intros
 refine aP (λM=>lS M x.kind 1 15) ?_;unfold cK.check;by_cases l:1<=x.kind/\x.kind<=15
 case neg =>
  rw[e! l,b! l];refine c_ ?_
  exact aS
 rw[d! l,c! l];refine c_ ?_
 rename_i g;generalize p:x.GB=c at j;refine C.loop (X:=Nat) (λi=>[(1,.pointer (some ⟨g,0,none⟩)),(26,.agg (cells c).toArray),(27,a! i)]) (λ_=>[aE g 39 x.cs]) (λi=>i<=6/\(c.take i).all small=true) (λi=>6 - i) 0 (by subst p;exact aK) aB.refl ⟨o_,rfl⟩ ?_;rintro i G ⟨v,b⟩;by_cases t:i<6
 ·have k:i<c.length:=o_;have u:(cells c)[i]?=some (a! c[i]):=by simp[cells,k]
  have a:(c.take (i+1)).all small=((c.take i).all small&&small c[i]):=by
   rw[rS k,List.all_append];simp
  have d:c[i]∈c:=zL k;generalize c[i]=n at u a d;refine c_ ?_
  refine aP (λM=>lS M n 0 255) ?_;cases f:decide (0<=n/\n<=255)
  ·have o:¬c.all small=true:=λh=>by
    have:=qR.1 h n d;unfold small at this;rw[f] at this;cases this
   rw[b! o];refine c_ ?_
   exact aS
  ·have q:small n=true:=f;rw[b,q] at a;refine c_ ?_
   exact⟨i+1,aK,aB.refl,⟨o_,a⟩,o_⟩
 ·obtain rfl:i=6:=o_;rw[fX o_] at b;rw[c! b];clear b j;by_cases f:0<=x.c.ref.seq/\x.c.ref.seq<=65535
  ·by_cases m:0<=x.n/\x.n<=2147483647
   ·rw[c! ⟨f,m⟩];refine c_ ?_
    refine aU (λM=>lS M x.c.ref.seq 0 65535) ?_;rw[d! f];refine e_ ?_
    refine aU (λM=>lS M x.n 0 2147483647) ?_;rw[d! m];refine e_ ?_
    refine rA (l_ [0,2] (g_ 1 (l_ [3,4] .nil))) (c_ ?_)
    refine cP (λM=>XL M x l.1 l.2) ?_;by_cases hb:x.bare=x
    ·have s:(!decide ((⟨x.bare.kind,x.bare.r,x.bare.i,x.bare.n,⟨⟨x.bare.c.id.rep,x.bare.c.id.seq⟩,x.bare.c.time,x.bare.c.kind,x.bare.c.a,x.bare.c.b,x.bare.c.n,⟨x.bare.c.ref.rep,x.bare.c.ref.seq⟩⟩⟩:cK)=⟨x.kind,x.r,x.i,x.n,⟨⟨x.c.id.rep,x.c.id.seq⟩,x.c.time,x.c.kind,x.c.a,x.c.b,x.c.n,⟨x.c.ref.rep,x.c.ref.seq⟩⟩⟩))=false:=by
      show(!decide (x.bare=x))=false;rw[d! hb];rfl
     rw[c! hb];refine c_ ?_
     exact aS
    ·have s:(!decide ((⟨x.bare.kind,x.bare.r,x.bare.i,x.bare.n,⟨⟨x.bare.c.id.rep,x.bare.c.id.seq⟩,x.bare.c.time,x.bare.c.kind,x.bare.c.a,x.bare.c.b,x.bare.c.n,⟨x.bare.c.ref.rep,x.bare.c.ref.seq⟩⟩⟩:cK)=⟨x.kind,x.r,x.i,x.n,⟨⟨x.c.id.rep,x.c.id.seq⟩,x.c.time,x.c.kind,x.c.a,x.c.b,x.c.n,⟨x.c.ref.rep,x.c.ref.seq⟩⟩⟩))=true:=by
      show(!decide (x.bare=x))=true;rw[e! hb];rfl
     rw[b! hb];refine c_ ?_
     exact aS
   ·rw[b! (λh=>m h.2)];refine c_ ?_
    refine aU (λM=>lS M x.c.ref.seq 0 65535) ?_;rw[d! f];refine e_ ?_
    refine aU (λM=>lS M x.n 0 2147483647) ?_;rw[e! m];refine e_ ?_
    exact aS
  ·rw[b! (λh=>f h.1)];refine c_ ?_
   refine aU (λM=>lS M x.c.ref.seq 0 65535) ?_;rw[e! f];refine e_ ?_
   exact aS
end
end Go.Proofs.YtmilalkjbojciaaGreat.Sep
