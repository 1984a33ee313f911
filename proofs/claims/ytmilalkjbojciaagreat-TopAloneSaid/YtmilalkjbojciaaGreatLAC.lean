/- Part AC: what it needs. No condition. -/
import Derived.Test.YtmilalkjbojciaaGreatLAA
import Derived.Test.YtmilalkjbojciaaGreatLAB
import Derived.RangeFuncRecord
set_option maxRecDepth 100000
set_option maxHeartbeats 8000000
open Go.Proofs.Tryz
namespace Go.Proofs.YtmilalkjbojciaaGreat.Sep
section
open Go.RowKit Reg
open Mem hiding Rd
def Ti:Ty (Sl aX) where
 val x:=.slice x.A x.n x.c
 size:=1
 bytes:=24
 tid:=24
 zero:=.slice none 0 0
 hlen _:=rfl
 lJ a u h:=by simp[Value.cells] at h;subst h;rfl
 gL:=sD
 hzero:=rfl
 fW:=q_
 nR:=.inr ⟨q_,λ_=>rfl⟩
instance:KL 24 aX bE Ti:=⟨rfl,λ_=>rfl⟩
theorem Ml(E:Env)(m:Nat)(hm:m≤1000000):G E 216 [.slice none 0 0,.int .i64 m] [] λe H'=>∃B d,d≤maxLen∧e=.returned (.slice B 0 d)∧H'=[own bE B 0 d []]:=by
 have hnil:Rd E bE none 0 0 []:=Rd.nil _ _;have h0m:0≤maxLen:=sD;refine t_ func216 ntmps216 ?_;by_cases h:m=0
 ·subst h;repeat first|refine v_ ?_|intro
  exact aR rfl aF (aB.oR bE none) ⟨_,_,h0m,rfl,rfl⟩
 ·repeat first|refine v_ ?_|intro
  exact aR rfl aF (aB.FF (k:=0) (aAh _) dT.aN) ⟨_,_,by assumption,rfl,rfl⟩
theorem zJ(E:Env)(A:Option Addr)(n c:Nat)(ss:List (Sl aX))(hr:Rd E Ti A n c ss)(hs:∀s∈ss,Rd E bE s.A s.n s.c s.l)(hm:(ss.flatMap (·.l)).length≤100000):G E 159 [.slice A n c] [] λe H'=>∃B d,((ss.flatMap (·.l)).length≤d∧d≤maxLen)∧e=.returned (.slice B (ss.flatMap (·.l)).length d)∧H'=[own bE B (ss.flatMap (·.l)).length d (ss.flatMap (·.l))]:=by
 have hn:=hr.len;have hcap:=hr.cap;have hmax:=fX;have hstep:∀ {i:Nat} {x:Sl aX},ss[i]?=some x→(ss.take (i+1)).flatMap (·.l)=(ss.take i).flatMap (·.l)++x.l∧((ss.take i).flatMap (·.l)).length+x.n≤100000∧((ss.take (i+1)).flatMap (·.l)).length=((ss.take i).flatMap (·.l)).length+x.n:=by
  intro i x hx;have e:(ss.take (i+1)).flatMap (·.l)=(ss.take i).flatMap (·.l)++x.l:=by rw[take_succ hx,aDz];simp
  have e2:((ss.take (i+1)).flatMap (·.l)).length=((ss.take i).flatMap (·.l)).length+x.n:=by
   rw[e,aAe,(hs x (aAi hx)).len]
  refine⟨e,?_,e2⟩;have h3:ss=ss.take (i+1)++ss.drop (i+1):=(aAx _ _).symm;have h4:(ss.flatMap (·.l)).length=((ss.take (i+1)).flatMap (·.l)).length+((ss.drop (i+1)).flatMap (·.l)).length:=by
   conv=>lhs;rw[h3,aDz,aAe]
  omega
 refine t_ func159 ntmps159 ?_;repeat ((fail_if_success (refine C.seq (x:=Code.region 2 _ _) ?_));first|refine Cx ?_|refine k_ ?_|intro _|refine Dr.two ?_ ?_)
 refine C.BI (X:=Unit) (λ_=>[(0,.slice A n c),(2,.slice none 0 0),(3,.int .i64 (ss.flatMap (·.l)).length)]) (λ_=>[]) (λ_=>True) ?_ ?_
 ·repeat first|refine v_ ?_|intro
  refine C.scan (Y:=Unit) hn (λi _=>[(0,.slice A n c),(2,.slice none 0 0),(3,.int .i64 ((ss.take i).flatMap (·.l)).length),(9,.slice A n c),(10,.int .i64 n),(11,.int .i64 i)]) (λ_ _=>[]) (λ_ _=>True) () aD aB.refl trivial ?_ ?_
  ·intro i _ x G hi hx _;obtain⟨h1,h2,h3⟩:=hstep hx;have hx2:=hs x (aAi hx);repeat first|refine v_ ?_|intro
   refine⟨(),?_,aB.refl,trivial⟩;rw[h3];exact aD
  ·intro _ G _;rw[hn,aAo,←hn];repeat first|refine v_ ?_|intro
   exact⟨(),aD,aB.refl,trivial⟩
 intro _ G _;generalize hk:(ss.flatMap (·.l)).length=k at hm⊢;repeat first|refine v_ ?_|intro
 refine bW (λM=>Ml M k (by omega)) ?_;rintro e H' ⟨B,d,hd,rfl,rfl⟩;repeat first|refine v_ ?_|intro
 refine C.scan (Y:=Hd) hn (λi s=>[(0,.slice A n c),(2,.slice none 0 0),(6,.slice s.A s.n s.c),(25,.slice A n c),(26,.int .i64 n),(27,.int .i64 i)]) (λi s=>[own bE s.A s.n s.c ((ss.take i).flatMap (·.l))]) (λi s=>s.n=((ss.take i).flatMap (·.l)).length∧s.n≤s.c∧s.c≤maxLen) ⟨B,0,d⟩ aD aB.refl ⟨rfl,aAh _,hd⟩ ?_ ?_
 ·rintro i ⟨B,m,d⟩ x G hi hx ⟨hm2,hd⟩;dsimp only at hm2 hd⊢;obtain⟨h1,h2,h3⟩:=hstep hx;have hx2:=hs x (aAi hx);repeat first|refine v_ ?_|intro
  rename_i B' d' g1 g2;exact⟨⟨B',m+x.n,d'⟩,aD,by dsimp only;rw[h1];exact aA,by dsimp only;omega,g1,g2⟩
 ·rintro⟨B,m,d⟩ G ⟨hm2,hd⟩;dsimp only at hm2 hd⊢;rw[hn,aAo,←hn] at *;obtain rfl:m=k:=o_;repeat first|refine v_ ?_|intro
  exact jQ ⟨_,_,hd,rfl,rfl⟩
def T7:Ty (Sl dD) where
 val x:=.slice x.A x.n x.c
 size:=1
 bytes:=24
 tid:=43
 zero:=.slice none 0 0
 hlen _:=rfl
 lJ a u h:=by simp[Value.cells] at h;subst h;rfl
 gL:=sD
 hzero:=rfl
 fW:=q_
 nR:=.inr ⟨q_,λ_=>rfl⟩
instance:KL 43 dD eB T7:=⟨rfl,λ_=>rfl⟩
theorem L9(E:Env)(m:Nat)(hm:m≤1000000):G E 391 [.slice none 0 0,.int .i64 m] [] λe H'=>∃B d,d≤maxLen∧e=.returned (.slice B 0 d)∧H'=[own eB B 0 d []]:=by
 have hnil:Rd E eB none 0 0 []:=Rd.nil _ _;have h0m:0≤maxLen:=sD;refine t_ func391 ntmps391 ?_;by_cases h:m=0
 ·subst h;repeat first|refine v_ ?_|intro
  exact aR rfl aF (aB.oR eB none) ⟨_,_,h0m,rfl,rfl⟩
 ·repeat first|refine v_ ?_|intro
  exact aR rfl aF (aB.FF (k:=0) (aAh _) dT.aN) ⟨_,_,by assumption,rfl,rfl⟩
theorem PK(E:Env)(A:Option Addr)(n c:Nat)(ss:List (Sl dD))(hr:Rd E T7 A n c ss)(hs:∀s∈ss,Rd E eB s.A s.n s.c s.l)(hm:(ss.flatMap (·.l)).length≤100000):G E 386 [.slice A n c] [] λe H'=>∃B d,((ss.flatMap (·.l)).length≤d∧d≤maxLen)∧e=.returned (.slice B (ss.flatMap (·.l)).length d)∧H'=[own eB B (ss.flatMap (·.l)).length d (ss.flatMap (·.l))]:=by
 have hn:=hr.len;have hcap:=hr.cap;have hmax:=fX;have hstep:∀ {i:Nat} {x:Sl dD},ss[i]?=some x→(ss.take (i+1)).flatMap (·.l)=(ss.take i).flatMap (·.l)++x.l∧((ss.take i).flatMap (·.l)).length+x.n≤100000∧((ss.take (i+1)).flatMap (·.l)).length=((ss.take i).flatMap (·.l)).length+x.n:=by
  intro i x hx;have e:(ss.take (i+1)).flatMap (·.l)=(ss.take i).flatMap (·.l)++x.l:=by rw[take_succ hx,aDz];simp
  have e2:((ss.take (i+1)).flatMap (·.l)).length=((ss.take i).flatMap (·.l)).length+x.n:=by
   rw[e,aAe,(hs x (aAi hx)).len]
  refine⟨e,?_,e2⟩;have h3:ss=ss.take (i+1)++ss.drop (i+1):=(aAx _ _).symm;have h4:(ss.flatMap (·.l)).length=((ss.take (i+1)).flatMap (·.l)).length+((ss.drop (i+1)).flatMap (·.l)).length:=by
   conv=>lhs;rw[h3,aDz,aAe]
  omega
 refine t_ func386 ntmps386 ?_;repeat ((fail_if_success (refine C.seq (x:=Code.region 2 _ _) ?_));first|refine Cx ?_|refine k_ ?_|intro _|refine Dr.two ?_ ?_)
 refine C.BI (X:=Unit) (λ_=>[(0,.slice A n c),(2,.slice none 0 0),(3,.int .i64 (ss.flatMap (·.l)).length)]) (λ_=>[]) (λ_=>True) ?_ ?_
 ·repeat first|refine v_ ?_|intro
  refine C.scan (Y:=Unit) hn (λi _=>[(0,.slice A n c),(2,.slice none 0 0),(3,.int .i64 ((ss.take i).flatMap (·.l)).length),(9,.slice A n c),(10,.int .i64 n),(11,.int .i64 i)]) (λ_ _=>[]) (λ_ _=>True) () aD aB.refl trivial ?_ ?_
  ·intro i _ x G hi hx _;obtain⟨h1,h2,h3⟩:=hstep hx;have hx2:=hs x (aAi hx);repeat first|refine v_ ?_|intro
   refine⟨(),?_,aB.refl,trivial⟩;rw[h3];exact aD
  ·intro _ G _;rw[hn,aAo,←hn];repeat first|refine v_ ?_|intro
   exact⟨(),aD,aB.refl,trivial⟩
 intro _ G _;generalize hk:(ss.flatMap (·.l)).length=k at hm⊢;repeat first|refine v_ ?_|intro
 refine bW (λM=>L9 M k (by omega)) ?_;rintro e H' ⟨B,d,hd,rfl,rfl⟩;repeat first|refine v_ ?_|intro
 refine C.scan (Y:=Hd) hn (λi s=>[(0,.slice A n c),(2,.slice none 0 0),(6,.slice s.A s.n s.c),(25,.slice A n c),(26,.int .i64 n),(27,.int .i64 i)]) (λi s=>[own eB s.A s.n s.c ((ss.take i).flatMap (·.l))]) (λi s=>s.n=((ss.take i).flatMap (·.l)).length∧s.n≤s.c∧s.c≤maxLen) ⟨B,0,d⟩ aD aB.refl ⟨rfl,aAh _,hd⟩ ?_ ?_
 ·rintro i ⟨B,m,d⟩ x G hi hx ⟨hm2,hd⟩;dsimp only at hm2 hd⊢;obtain⟨h1,h2,h3⟩:=hstep hx;have hx2:=hs x (aAi hx);repeat first|refine v_ ?_|intro
  rename_i B' d' g1 g2;exact⟨⟨B',m+x.n,d'⟩,aD,by dsimp only;rw[h1];exact aA,by dsimp only;omega,g1,g2⟩
 ·rintro⟨B,m,d⟩ G ⟨hm2,hd⟩;dsimp only at hm2 hd⊢;rw[hn,aAo,←hn] at *;obtain rfl:m=k:=o_;repeat first|refine v_ ?_|intro
  exact jQ ⟨_,_,hd,rfl,rfl⟩
def mD(l:List aX)(i:Int):List aX:=if 0≤i∧i<l.length then l.take i.toNat++l.drop (i.toNat+1) else l
theorem GD(E:Env)(A:Option Addr)(n c:Nat)(l:List aX)(i:Int)(hr:Rd E bE A n c l)(hm:n≤100000):G E 346 [.slice A n c,.int .i64 i] [] λe H'=>∃B d,((mD l i).length≤d∧d≤maxLen)∧e=.returned (.slice B (mD l i).length d)∧H'=[own bE B (mD l i).length d (mD l i)]:=by
 have hn:=hr.len;have hcap:=hr.cap;have hmax:=fX;unfold mD;refine t_ func346 ntmps346 ?_;by_cases h:0≤i∧i<n
 ·rw[if_pos o_];obtain⟨j,rfl⟩:=aCf h.1;rw[aAu];have h1:Rd E bE A j c (l.take j):=hr.upto o_ o_ (aAf _);have h2:=hr.from_ (k:=j+1) o_;have ha:IntKind.i64.wrap ((j:Int)+1)=((j+1:Nat):Int):=by rw[aAq _ o_];omega
  have e:[(⟨A,j,c,l.take j⟩:Sl aX),⟨if c=j+1 then A else A.map (·.add ((j+1)*bE.size)),n - (j+1),c - (j+1),l.drop (j+1)⟩].flatMap (·.l)=l.take j++l.drop (j+1):=by simp
  repeat first|refine v_ ?_|intro
  refine rA (l_ [0,1,2,3,4,5,6] (g_ 7 (g_ 8 (n_ 9 .nil)))) ?_;repeat first|refine v_ ?_|intro
  refine cg rfl sD bA sK aC (λM hE=>zJ M _ _ _ _ dB (by intro s hs;simp at hs;rcases hs with rfl|rfl;exact h1.sub hE;exact h2.sub hE) (by rw[e,aAe,aAg,aBd];omega)) ?_;rw[e];rintro r H' ⟨B,d,hd,rfl,rfl⟩;repeat first|refine v_ ?_|intro
  exact jQ ⟨_,_,hd,rfl,rfl⟩
 ·rw[if_neg o_];have hb:i<0∨n≤i:=o_;rcases hb with hb|hb
  ·repeat first|refine v_ ?_|intro
   refine dX (λM h1=>xN M A n c l h1 (by omega)) ?_;rw[hn];rintro r H' ⟨B,d,hd,rfl,rfl⟩;repeat first|refine v_ ?_|intro
   exact jQ ⟨_,_,hd,rfl,rfl⟩
  ·have h0:¬i<0:=o_;repeat first|refine v_ ?_|intro
   refine dX (λM h1=>xN M A n c l h1 (by omega)) ?_;rw[hn];rintro r H' ⟨B,d,hd,rfl,rfl⟩;repeat first|refine v_ ?_|intro
   exact jQ ⟨_,_,hd,rfl,rfl⟩
end
section
open Go.RowKit Mem Reg
abbrev fz(r:Option Nat):Fence:={ Fence.wide with round:=r }
theorem wS{r:Option Nat}{n:Nat}{P:Program}{f:FuncId}{args:Array Value}{w:World}{R:Ending→World→Prop}(h:Calls P f args w R):CallsIn (fz r) n P f args w R:=(callsIn_wide (n:=n)).2 h
theorem qC{n:Nat}{P:Program}{f:FuncId}{args:Array Value}{w:World}{R:Ending→World→Prop}(h:CallsIn (fz none) n P f args w R):Calls P f args w R:=(callsIn_wide (n:=n)).1 h
theorem LH{r:Option Nat}{n:Nat}{P:Program}{row:String}{args:Array Value}{w:World}{R:Value→World→Prop}(h:Rows P row args w R):RowsIn (fz r) n P row args w R :=
 λc cs _=>let ⟨v,w',h1,h2⟩:=h c cs;⟨v,w',h1,stepsIn_wide.2 h2⟩
theorem Cs{r:Option Nat}{n:Nat}{P:Program}{o:Oper}{a:Act}{w:World}{K:Act→World→Prop}{Q:Exit→Act→World→Prop}(hd:∀c,o.op≠.defer c)(h:o.wp P a w K Q):o.wpIn (fz r) n P a w K Q:=by
 refine⟨λ_ _=>trivial,?_⟩;have hs:o.semAt (fz r).round a.eval=execOp a.eval o:=by
  cases r with
  |none=>rfl
  |some l=>exact Oper.semAt_some l _ _ hd
 rw[hs];unfold Oper.wp at h;have hdep:∀(p:Prop),((fz r).depth.isSome=true→p):=λp hh=>by cases hh
 generalize (execOp a.eval o).run P w=res at h⊢;cases res with
 |ok x w' =>
  cases x with
  |value v=>exact h
  |skip=>exact h
  |defer d=>exact h
  |enter f args=>exact⟨hdep _,(wS h).mono λe w'' hq=>by cases e<;>exact hq⟩
  |row row args=>exact⟨hdep _,LH h⟩
  |round=>exact h.elim
  |_=>exact h.elim
 |halt e w'=>cases e<;>first|exact h|exact h.elim
structure CI(r:Option Nat)(P:Program)(N:Nat)(E:Env)(c:Code)(Q:QF)(F:Nat→Value)(H:List aL):Prop where
 get:∀a w,qX E N F a→St E H w→c.wpIn (fz r) 0 P (lift N E Q) a w
structure LI(r:Option Nat)(P:Program)(N:Nat)(E:Env)(ops:List Oper)(Q:QF)(l:List Oper)(F:Nat→Value)(H:List aL):Prop where
 get:∀a w,qX E N F a→St E H w→wpListIn (fz r) 0 P ops.toArray (lift N E Q) l a w
section
variable {r:Option Nat} {P:Program} {N:Nat} {E:Env} {Q:QF} {F:Nat→Value} {H H' R:List aL}
theorem LI.nil{ops:List Oper}(h:Q .normal F H):LI r P N E ops Q [] F H:=⟨λ_ _ ha hw=>⟨F,H,ha,hw,h⟩⟩
theorem LI.fQ{ops rest:List Oper}{d:Nat}{op:Op}{ty:TypeId}{pos:String}{af:Array Edge}{K:Value→List aL→Prop}(hd:d<N)(hdf:∀c,op≠.defer c)
  (h:gK P N E F H ⟨some d,op,ty,pos,af,none⟩ K) (hk:∀v H',K v H'→LI r P N E ops Q rest (pT F d v) H'):LI r P N E ops Q (⟨some d,op,ty,pos,af,none⟩::rest) F H:=by
 refine⟨λa w ha hw=>?_⟩;refine wpListIn_plain rfl λK' hK=>?_;exact Cs hdf (h a w ha hw _ _ λv H' u' hq hu'=>hK _ _ ((hk v H' hq).get _ u' (ha.put hd v) hu'))
theorem CI.seq{x y:Code}(h:CI r P N E x (oQ (λF H=>CI r P N E y Q F H) Q) F H):CI r P N E (.seq x y) Q F H:=by
 refine⟨λa w ha hw=>wpIn_seq (wpIn_mono (h.get a w ha hw) ?_)⟩;intro e a w hq;cases e with
 |normal=>obtain⟨F,H,h1,h2,h3⟩:=hq;exact CI.get h3 a w h1 h2
 |ret=>exact hq
 |exit id=>exact hq
 |panic c=>exact hq
 |_=>exact hq.elim
theorem CI.block{id:Nat}{c:Code}(h:CI r P N E c (Tg id Q) F H):CI r P N E (.block id c) Q F H:=by
 refine⟨λa w ha hw=>wpIn_block (wpIn_mono (h.get a w ha hw) ?_)⟩;intro e a w hq;cases e with
 |exit id' =>
  obtain⟨F,H,h1,h2,h3⟩:=hq;simp only[Exit.inBlock,Tg] at *;split at h3
  ·rw[if_pos ‹_›];exact⟨F,H,h1,h2,h3⟩
  ·rw[if_neg ‹_›];exact⟨F,H,h1,h2,h3⟩
 |normal=>exact hq
 |ret=>exact hq
 |panic c=>exact hq
 |_=>exact hq.elim
theorem CI.exit{id:Nat}(h:Q (.exit id) F H):CI r P N E (.exit id) Q F H:=⟨λ_ _ ha hw=>wpIn_exit ⟨F,H,ha,hw,h⟩⟩
theorem CI.skip(h:Q .normal F H):CI r P N E .skip Q F H:=⟨λ_ _ ha hw=>wpIn_skip ⟨F,H,ha,hw,h⟩⟩
theorem CI.ret(h:Q .ret F H):CI r P N E .ret Q F H:=⟨λ_ _ ha hw=>wpIn_ret ⟨F,H,ha,hw,h⟩⟩
theorem CI.cond{c:Operand}{x y:Code}{b:Bool}(hc:ev F c=.bool b)(hx:b=true→CI r P N E x Q F H)(hy:b=false→CI r P N E y Q F H):CI r P N E (.cond c x y) Q F H :=
 ⟨λa w ha hw=>wpIn_cond_split (by rw[ha.eval];exact hc) (λh=>(hx h).get a w ha hw) (λh=>(hy h).get a w ha hw)⟩
theorem CI.region{id:Nat}{l:List Oper}(h:LI r P N E l Q l F H):CI r P N E (.region id l.toArray false) Q F H:=⟨λa w ha hw=>wpIn_region_lit (h.get a w ha hw)⟩
theorem CI.loop{c:Code}{X:Type}(S:X→List (Nat×Value))(HX:X→List aL)(R:X→Prop)(μ:X→Nat)(x0:X)(hF:nH F (S x0))(hH:aB E H (HX x0))(h0:R x0)
  (round:∀x G,R x→CI r P N E c (oQ (λF' H'=>∃x',nH F' (S x')∧aB E H' (HX x')∧R x'∧μ x'<μ x) Q) (OQ (S x) G) (HX x)):CI r P N E (.loop c) Q F H:=by
 refine⟨λa w ha hw=>?_⟩
 let p:Act→World→Nat→Prop:=λa w m=>∃x F,qX E N F a∧nH F (S x)∧St E (HX x) w∧R x∧μ x=m
 refine wpIn_loop (λa w=>∃m,p a w m) (λa w=>low (p a w)) ⟨_,x0,F,ha,hF,hH w hw,h0,rfl⟩ ?_;intro a w hI;obtain⟨⟨x,F,hr,hS,hw,hR,hx⟩,_⟩:=yD hI;have h:=round x F hR;rw[oH hS] at h;refine wpIn_mono (h.get a w hr hw) ?_;intro e a' w' hq;cases e with
 |normal =>
  obtain⟨F',H',h1,h2,x',h3,h4,h5,h6⟩:=hq;have hp:p a' w' (μ x'):=⟨x',F',h1,h3,h4 w' h2,h5,rfl⟩
  refine⟨⟨_,hp⟩,?_⟩;refine Nat.lt_of_le_of_lt ((yD (p:=p a' w') ⟨_,hp⟩).2 _ hp) ?_;rw[←hx];exact h6
 |ret=>exact hq
 |exit id=>exact hq
 |panic c=>exact hq
 |_=>exact hq.elim
theorem X8{f:FuncId}{fn:Func}{c:Code}{args:Array Value}{W:Ending→List aL→Prop}(hf:P.funcs[f]?=some fn)(hb:fn.body=some c)(hn:fn.ntmps=N)(ha:args.size≤N)
  (h:CI none P N E c (gF P E fn W) (Jr args) H):aK P E f args H W:=by
 intro hds w hw;refine qC (n:=0) (callsIn_of_wp hf hb trivial ?_);have hr:qX E N (Jr args) { tmps:=args++Array.replicate (fn.ntmps - args.size) undef,defers:=[] }:=by
  refine⟨hds.symm,by simp;omega,λi=>?_⟩;simp only[Jr,Fl,aBb,aEe,aBy,aEo,aDt];split
  ·rfl
  ·rename_i h;rw[aCu o_];split<;>rfl
 refine wpIn_mono (h.get _ w hr hw) ?_;intro e a w hq;cases e with
 |normal=>obtain⟨F,H,hr,hw,v,H',h1,h2,h3⟩:=hq;exact⟨hr.defers.trans hds,v,by rw[pV hr];exact h1 w hw,H',h2 w hw,h3⟩
 |ret=>obtain⟨F,H,hr,hw,v,H',h1,h2,h3⟩:=hq;exact⟨hr.defers.trans hds,v,by rw[pV hr];exact h1 w hw,H',h2 w hw,h3⟩
 |exit id=>obtain⟨_,_,_,_,h⟩:=hq;exact h.elim
 |panic c=>obtain⟨h0,H,h2,h3⟩:=hq;exact⟨h0.trans hds,H,h2,h3⟩
 |_=>exact hq.elim
def Ps(P:Program)(E:Env)(l:Nat)(vs:List Value)(H:List aL)(Q:Ending→List aL→Prop):Prop :=
 E.ds=[]→∀w,St E H w→∃f tmps assign body,(Instr.yield l vs.toArray).run P w=.ok (.round l f tmps assign body) w∧RoundIn (fz none) 0 P l f tmps assign body w λe w'=>∃H',St E H' w'∧Q e H'
theorem LI.yield{ops rest:List Oper}{l:Nat}{x:Operand}{xs:List Operand}{tys:Array TypeId}{vs:List Value}{Hp:List aL}{Q1:Ending→List aL→Prop}{d:Nat}{ty:TypeId}{pos:String}{af:Array Edge}
  (hd:d<N) (hx:ev F x=.func (.yield l) #[] #[]) (hv:KV F xs vs) (hp:cS Hp H R) (law:∀M,Sub E R M→Ps P M l vs Hp Q1)
  (hQ:∀e H',Q1 e H'→∃v,e=.returned v∧∃H2,wK H' R H2∧LI none P N E ops Q rest (pT F d v) H2) :
  LI none P N E ops Q (⟨some d,.call { callee:=.value x,args:=xs.toArray,argTypes:=tys },ty,pos,af,none⟩::rest) F H:=by
 refine⟨λa u ha hu=>?_⟩;refine wpListIn_plain rfl λK' hK=>?_;refine⟨λ_ _=>trivial,?_⟩;obtain⟨M,hds,hE,hst,hback⟩:=(hu.aV hp).enter;obtain⟨f,tmps,assign,body,hy,hround⟩:=law M hE hds u hst;have hr:(Oper.semAt (fz none).round a.eval ⟨some d,.call { callee:=.value x,args:=xs.toArray,argTypes:=tys },ty,pos,af,none⟩).run P u=.ok (.round l f tmps assign body) u:=by
  rw[show(fz none).round=none from rfl,Oper.semAt_none];have hargs:(xs.toArray.map (ev F))=vs.toArray:=by rw[←hv.eq,AB];simp
  rw[ha.eval];simp[execOp,resolve,hx,Deferred.ofValue,invoke,hargs,hy]
 rw[hr];refine⟨λhh=>(by cases hh),hround.mono ?_⟩;rintro e w' ⟨H',h3,h4⟩;obtain⟨v,rfl,H2,hcat,h5⟩:=hQ e H' h4;exact hK _ _ (h5.get _ w' (ha.put hd v) (by rw[hcat.eq];exact hback H' w' h3))
theorem LI.val{ops rest:List Oper}{d:Nat}{op:Op}{ty:TypeId}{pos:String}{af:Array Edge}{v:Value}(hd:d<N)(hdf:∀c,op≠.defer c)(hr:qB P E H (ev F) ⟨some d,op,ty,pos,af,none⟩ v)(h:LI r P N E ops Q rest (pT F d v) H) :
  LI r P N E ops Q (⟨some d,op,ty,pos,af,none⟩::rest) F H:=by
 refine⟨λa w ha hw=>wpListIn_plain rfl λK' hK=>Cs hdf ?_⟩;unfold Oper.wp;rw[ha.eval,hr w hw];exact hK _ _ (h.get _ w (ha.put hd v) hw)
theorem LI.pX{ops rest:List Oper}{op:Op}{ty:TypeId}{pos:String}{af:Array Edge}{K:Value→List aL→Prop}(hdf:∀c,op≠.defer c)
  (h:gK P N E F H ⟨none,op,ty,pos,af,none⟩ K) (hk:∀v H',K v H'→LI r P N E ops Q rest F H'):LI r P N E ops Q (⟨none,op,ty,pos,af,none⟩::rest) F H :=
 ⟨λa w ha hw=>wpListIn_plain rfl λ_ hK=>Cs hdf (h a w ha hw _ _ λv H' u' hq hu'=>hK _ _ ((hk v H' hq).get _ u' ha hu'))⟩
theorem CI.Fx{c:Operand}{x y:Code}{b:Bool}(hc:ev F c=.bool b)(hb:b=true)(hx:CI r P N E x Q F H):CI r P N E (.cond c x y) Q F H:=CI.cond hc (λ_=>hx) (λh=>by rw[hb] at h;cases h)
theorem CI.GC{c:Operand}{x y:Code}{b:Bool}(hc:ev F c=.bool b)(hb:b=false)(hy:CI r P N E y Q F H):CI r P N E (.cond c x y) Q F H:=CI.cond hc (λh=>by rw[hb] at h;cases h) (λ_=>hy)
end
theorem Zo{op:Op}(h:∀c,op≠.defer c:=by intro c h;cases h):∀c,op≠.defer c:=h
theorem HI{p q:Prop}(hq:q)(h:wA q→p:=by intro h;(first|refine CI.seq ?_|refine CI.block ?_|refine CI.exit ?_|refine CI.skip ?_|refine CI.ret ?_|refine CI.region ?_|refine LI.nil ?_|(focus (apply LI.val;(· decide);(· exact Zo);(· exact Cw)))|(focus (apply CI.Fx;(· exact rfl);(· exact sW)))|(focus (apply CI.GC;(· exact rfl);(· exact sW)))|with_reducible refine T.n ?_|with_reducible refine T.ret ?_|with_reducible refine T.exit ?_|with_reducible refine I.n ?_|with_reducible refine I.ret ?_|with_reducible refine I.tA ?_|with_reducible refine I.TE sD ?_);exact h.out):p:=h ⟨hq⟩
theorem HC{p q:Prop}(hq:q)(h:wA q→p:=by intro h;first|(apply LI.fQ;(· decide);(· exact Zo);(· exact NO);(first|exact x0 h.out|exact x1 h.out|exact x2 h.out))|(apply LI.pX;(· exact Zo);(· exact NO);(first|exact x0 h.out|exact x1 h.out|exact x2 h.out))):p:=h ⟨hq⟩
section
variable {r:Option Nat} {N:Nat} {E:Env} {Q:QF} {F:Nat→Value} {H R:List aL}
theorem Zz{f:FuncId}{xs:List Operand}{tys:Array TypeId}{Hp:List aL}{Q1:Ending→List aL→Prop}{d:Nat}{ty:TypeId}{pos:String}{af:Array Edge}{os rest:List Oper}(hd:d<N)(hk:xA f=true)(hp:cS Hp H R)(law:∀M,Sub E R M→aK prog M f (AO F xs).toArray Hp Q1)
  (hQ:∀e H',Q1 e H'→∃v,e=.returned v∧∃H2,wK H' R H2∧LI r prog N E os Q rest (pT F d v) H2) :
  LI r prog N E os Q (⟨some d,.call { callee:=.value (.func f),args:=xs.toArray,argTypes:=tys },ty,pos,af,none⟩::rest) F H:=by
 obtain⟨fn,h1,h2,h3⟩:=iY hk;refine LI.fQ hd (by intro c h;cases h) (S.call rfl rfl h1 h2 h3 hp law hQ) λv H' h=>h
end
def By(l:Nat)(r:Loop):aL where
 holds F w:=(∀b,F b↔b=l)∧w.heap[l]?=some (.loop r)
 loc h hk:=⟨h.1,(hk _ ((h.1 _).2 rfl)).trans h.2⟩
 lt h hb:=by rw[(h.1 _).1 hb];exact(aBv.1 h.2).1
def vD(D:Nat):aL where
 holds F w:=(∀b,F b↔b=D)∧w.heap[D]?=some (.deferred (some []))
 loc h hk:=⟨h.1,(hk _ ((h.1 _).2 rfl)).trans h.2⟩
 lt h hb:=by rw[(h.1 _).1 hb];exact(aBv.1 h.2).1
def I0(l:List aL):aL:=⟨cT l,iJ,mP⟩
section
variable {E:Env} {H R:List aL} {w:World}
theorem St.I0{l:List aL}:St E (I0 l::R) w↔St E (l++R) w:=by
 constructor
 ·exact λh=>h.conv λF ⟨F1,F2,h1,h2,h3,h4⟩=>⟨F,aY.2 ⟨F1,F2,h1,h2,h3,h4⟩,λ_ h=>h⟩
 ·intro h;refine h.conv λF hs=>?_;obtain⟨F1,F2,h1,h2,h3,h4⟩:=aY.1 hs;exact⟨F,⟨F1,F2,h1,h2,h3,h4⟩,λ_ h=>h⟩
theorem St.lp{l:Nat}{r:Loop}(h:St E (By l r::R) w):w.heap[l]?=some (.loop r):=by
 obtain⟨F,h1,_⟩:=h.has Has.aN;exact h1.2
theorem St.df{D:Nat}(h:St E (vD D::R) w):w.heap[D]?=some (.deferred (some [])):=by
 obtain⟨F,h1,_⟩:=h.has Has.aN;exact h1.2
theorem St.Ft{l:Nat}{r r':Loop}(h:St E (By l r::R) w):St E (By l r'::R) (w.putObj l (.loop r')):=by
 have hl:=(aBv.1 h.lp).1;refine h.jX (a:=By l r) (l:=[By l r']) dT.aN rfl rfl rfl (by simp) (G:=λb=>b=l) (λb _ hb=>World.putObj_heap_other hb) λF1 h1=>?_;exact⟨F1,⟨F1,λ_=>False,λb=>by simp,λ_ _ h=>h,⟨h1.1,World.putObj_heap_same hl⟩,λ_ h=>h⟩,λb hb=>.inl hb,λb _ hb=>(h1.1 b).2 hb⟩
theorem St.Ho{l:Nat}{r:Loop}{o:Obj}(h:St E (By l r::R) w):St E R (w.putObj l o):=by
 refine(h.jX (a:=By l r) (l:=[]) dT.aN rfl rfl rfl (by simp) (G:=λb=>b=l) (λb _ hb=>World.putObj_heap_other hb) λF1 h1=>?_);exact⟨λ_=>False,λ_ h=>h,λb hb=>hb.elim,λb _ hb=>(h1.1 b).2 hb⟩
theorem St.UE{D:Nat}{o:Obj}(h:St E (vD D::R) w):St E R (w.putObj D o):=by
 refine(h.jX (a:=vD D) (l:=[]) dT.aN rfl rfl rfl (by simp) (G:=λb=>b=D) (λb _ hb=>World.putObj_heap_other hb) λF1 h1=>?_);exact⟨λ_=>False,λ_ h=>h,λb hb=>hb.elim,λb _ hb=>(h1.1 b).2 hb⟩
theorem St.newObj{a:aL}{o:Obj}(h:St E H w)(ha:∀F,(∀b,F b↔b=w.heap.size)→(w.alloc o).heap[w.heap.size]?=some o→a.holds F (w.alloc o)):St E (a::H) (w.alloc o) :=
 h.grow (l:=[a]) rfl rfl rfl (by simp) (λb hb=>aDu _ _ _ hb) (F1:=λb=>b=w.heap.size) ⟨_,λ_=>False,λb=>by simp,λ_ _ h=>h,ha _ (λ_=>aDl) (World.alloc_heap_new w o),λ_ h=>h⟩ (λb hb=>by omega)
theorem St.swap{a:aL}{l:List aL}(h:St E (a::l++R) w):St E (l++a::R) w:=h.conv λF hs=>by
 obtain⟨F1,F2,h1,h2,h3,h4⟩:=hs;obtain⟨G1,G2,g1,g2,g3,g4⟩:=aY.1 h4;refine⟨F,aY.2 ⟨G1,λb=>F1 b∨G2 b,λb=>by rw[h1 b,g1 b];constructor<;>(rintro(h|h|h)<;>simp[h]),?_,g3,F1,G2,λ_=>aDl,λb hb hg=>h2 b hb ((g1 b).2 (.inr hg)),h3,g4⟩,λ_ h=>h⟩;rintro b hb (hf|hg)
 ·exact h2 b hf ((g1 b).2 (.inl hb))
 ·exact g2 b hb hg
theorem St.qH{a:aL}{l:List aL}(h:St E (l++a::R) w):St E (a::l++R) w:=h.conv λF hs=>by
 obtain⟨G1,K,h1,h2,g3,F1,G2,k1,k2,h3,g4⟩:=aY.1 hs;refine⟨F,⟨F1,λb=>G1 b∨G2 b,λb=>by rw[h1 b,k1 b];constructor<;>(rintro(h|h|h)<;>simp[h]),?_,h3,aY.2 ⟨G1,G2,λ_=>aDl,λb hb hg=>h2 b hb ((k1 b).2 (.inr hg)),g3,g4⟩⟩,λ_ h=>h⟩;rintro b hb (hf|hg)
 ·exact h2 b hf ((k1 b).2 (.inl hb))
 ·exact k2 b hb hg
end
def Env.jU(E:Env)(ds:List Deferred):Env:={ E with ds:=ds }
theorem St.jU{E:Env}{ds:List Deferred}{H:List aL}{w:World}(h:St E H w):St (E.jU ds) H w:=⟨h.os,h.tape,h.output,h.size,h.MH,h.lB,h.fp⟩
theorem St.JC{E:Env}{ds:List Deferred}{H:List aL}{w:World}(h:St (E.jU ds) H w):St E H w:=⟨h.os,h.tape,h.output,h.size,h.MH,h.lB,h.fp⟩
def QX(F:Nat→Value):List Nat→List Value→Nat→Value
 |p::ps,v::vs=>QX (pT F p v) ps vs
 |_,_=>F
theorem qX.QX{E:Env}{N:Nat}:∀ {ps:List Nat} {vs:List Value} {F:Nat→Value} {t:Array Value},(∀p∈ps,p<N)→qX E N F { tmps:=t,defers:=E.ds } →
  qX E N (QX F ps vs) { tmps:=(ps.zip vs).foldl (λt (p,v)=>t.setIfInBounds p v) t,defers:=E.ds }
 | [],_,_,_,_,h=>by cases ‹List Value› <;> exact h
 |p::ps,[],_,_,_,h=>h
 |p::ps,v::vs,F,t,hp,h=>by
  have h1:=h.put (hp p aBo) v;exact qX.QX (vs:=vs) (λq hq=>hp q (aBl _ hq)) h1
structure WJ(P:Program)(N:Nat)(E:Env)(c:Code)(Qw:Exit→Act→World→Prop)(F:Nat→Value)(H:List aL):Prop where
 get:∀a w,qX E N F a→St E H w→c.wpIn (fz none) 0 P Qw a w
section
variable {P:Program} {N:Nat} {E:Env} {Qw:Exit→Act→World→Prop} {F:Nat→Value} {H R:List aL}
theorem WJ.yR{x y:Code}(h:C P N E x (oQ (λF H=>WJ P N E y Qw F H) (λ_ _ _=>False)) F H):WJ P N E (.seq x y) Qw F H:=by
 refine⟨λa w ha hw=>wpIn_seq (wpIn_mono ((wpIn_wide (n:=0)).2 (h.get a w ha hw)) ?_)⟩;intro e a w hq;cases e with
 |normal=>obtain⟨F,H,h1,h2,h3⟩:=hq;exact WJ.get h3 a w h1 h2
 |ret=>obtain⟨_,_,_,_,h⟩:=hq;exact h.elim
 |exit id=>obtain⟨_,_,_,_,h⟩:=hq;exact h.elim
 |panic c=>obtain⟨_,_,_,h⟩:=hq;exact h.elim
 |_=>exact hq.elim
theorem WJ.seq{x y:Code}(h:WJ P N E x (Exit.then (λa w=>y.wpIn (fz none) 0 P Qw a w) Qw) F H):WJ P N E (.seq x y) Qw F H:=⟨λa w ha hw=>wpIn_seq (h.get a w ha hw)⟩
structure Cv(E:Env)(H J:List aL):Prop where
 c:aB E H J
def ZF(id:Nat)(E:Env)(J X:List aL):QF
 | .normal,_,H=>Cv E H J
 | .exit id',_,H=>id'=id∧aB E H X
 |_,_,_=>False
theorem WJ.rf{α Y:Type}{g:Operand}{ps:List Nat}{assign body tail:Code}{id gf:Nat}{lb:List Value}{xs:List α}(enc:α→List Value)(JP JX:Nat→List aL)(S:Nat→Y→List (Nat×Value))(JA:Nat→Y→List aL){Hit Hd:List aL}{Hs:Nat→List aL}
  (hds:E.ds=[]) (hg:ev F g=.func (.func gf) #[] lb.toArray) (hk:∃fn,P.funcs[gf]?=some fn∧(fn.name == "runtime.NumGoroutine")=false∧fn.body.isNone=false) (hps:∀x,(enc x).length=ps.length) (hN:∀p∈ps,p<N) (hH:aB E H (JP 0++Hit))
  (iter:∀M R' l (J X:Nat→aL),Sub E R' M→(∀E2 R2 i x,Sub M R2 E2→xs[i]?=some x→Ps P E2 l (enc x) [J i] (λe H'=>(e=.returned (.bool true)∧H'=[J (i+1)])∨(e=.returned (.bool false)∧H'=[X i]))) →
   aK P M gf (.func (.yield l) #[] #[]::lb).toArray (J 0::Hit) (λe H'=>(∃v,e=.returned v)∧(H'=J xs.length::Hd∨∃i,i<xs.length∧H'=X i::Hs i)))
  (hassign:∀E2 R3 l i x,Sub E R3 E2→E2.ds=[]→xs[i]?=some x→CI (some l) P N E2 assign (oQ (λF' H'=>∃y,nH F' (S i y)∧aB E2 H' (JA i y)) (λ_ _ _=>False)) (QX F ps (enc x)) (JP i))
  (hbody:∀E2 R3 l i x y G,Sub E R3 E2→E2.ds=[]→xs[i]?=some x→CI (some l) P N E2 body (ZF id E2 (JP (i+1)) (JX i)) (OQ (S i y) G) (JA i y))
  (hdone:∀D,WJ P N (E.jU [{ target:=.collected D,args:=#[] }]) tail Qw F (vD D::(JP xs.length++Hd)))
  (hstop:∀D i,i<xs.length→WJ P N (E.jU [{ target:=.collected D,args:=#[] }]) tail Qw F (vD D::(JX i++Hs i))) :
  WJ P N E (.block id (.rangeFunc g ps.toArray assign body)) (Exit.then (λa w=>tail.wpIn (fz none) 0 P Qw a w) Qw) F H:=by
 refine⟨λa w ha hw=>wpIn_block (wpIn_rangeFunc ?_)⟩;intro fn _;have had:a.defers=[]:=ha.defers.trans hds;obtain⟨rec,hrec⟩:∃rec:LoopState→Option Code→Loop,rec=λst pe=>{ state:=st,pending:=pe,fn,tmps:=a.tmps,params:=ps.toArray,assign,body,defers:=w.heap.size }:=⟨_,rfl⟩
 obtain⟨W0,hW0⟩:∃W0,w.alloc (.deferred (some []))=W0:=⟨_,rfl⟩
 obtain⟨W1,hW1⟩:∃W1,W0.alloc (.loop (rec .ready none))=W1:=⟨_,rfl⟩
 have hz:W0.heap.size=w.heap.size+1:=by rw[←hW0];simp
 have hs0:St E (vD w.heap.size::(JP 0++Hit)) W0:=by
  rw[←hW0];exact(hH w hw).newObj λF' h1 h2=>⟨h1,h2⟩
 have hs1:St E (By (w.heap.size+1) (rec .ready none)::vD w.heap.size::(JP 0++Hit)) W1:=by
  rw[←hW1];exact hs0.newObj λF' h1 h2=>⟨λb=>by rw[h1 b,hz],by rw[hz] at h2;exact h2⟩
 let J:Nat→aL:=λi=>I0 (By (w.heap.size+1) (rec .ready none)::JP i)
 let X:Nat→aL:=λi=>I0 (By (w.heap.size+1) (rec .done (some (.exit id)))::JX i)
 have hs2:St E ((J 0::Hit)++[vD w.heap.size]) W1:=by
  have h1:St E (By (w.heap.size+1) (rec .ready none)::(JP 0++Hit)++[vD w.heap.size]) W1:=by
   have:=St.swap (l:=By (w.heap.size+1) (rec .ready none)::(JP 0++Hit)) (a:=vD w.heap.size) (R:=[]) (E:=E) (w:=W1) (by
    have h2:=St.qH (l:=[By (w.heap.size+1) (rec .ready none)]) (a:=vD w.heap.size) (R:=JP 0++Hit) (E:=E) (w:=W1) hs1;simpa using h2)
   simpa using this
  refine St.I0.2 ?_;simpa using h1
 obtain⟨M,hds',hE,hst,hback⟩:=hs2.enter;obtain⟨gn,hf1,hf2,hf3⟩:=hk;refine⟨w.heap.size+1,[{ target:=.collected w.heap.size,args:=#[] }],W1,{ target:=.fn (.func gf) lb.toArray,args:=#[.func (.yield (w.heap.size+1)) #[] #[]] },W1,gf,
  #[.func (.yield (w.heap.size+1)) #[] #[]]++lb.toArray,W1,?_,?_,λ_ _=>trivial,?_,λhh=>(by cases hh),?_⟩
 ·rw[←hW1,←hW0,hrec];exact run_enterLoop_outer _ _ _ _ _
 ·rw[ha.eval];simp only[resolve,hg];simp[go_sem,ev]
 ·have h1:¬gn.name = "runtime.NumGoroutine" := by simpa using hf2
  have h2:¬gn.body=none:=by intro h;rw[h] at hf3;cases hf3
  simp[invoke,callFunc,hf1,h1,h2]
 ·have hargs : #[.func (.yield (w.heap.size+1)) #[] #[]]++lb.toArray=(Value.func (.yield (w.heap.size+1)) #[] #[]::lb).toArray:=by simp
  rw[hargs];refine wS ((iter M [vD w.heap.size] (w.heap.size+1) J X hE ?_ hds' W1 hst).mono ?_)
  ·intro E2 R2 i x hE2 hx hd2 W hW;have hW':St E2 (By (w.heap.size+1) (rec .ready none)::JP i++[]) W:=by simpa using St.I0.1 hW
   have hy:=run_yield (P:=P) (args:=(enc x).toArray) (St.lp hW') (by rw[hrec];simp[hps]);rw[hrec] at hy;refine⟨fn,_,assign,body,hy,roundIn_of_wpIn trivial ?_⟩;obtain⟨E4,hd4,hE4,hst4,hback4⟩:=(St.swap hW').enter;have hr4:qX E4 N (QX F ps (enc x)) { tmps:=(ps.toArray.zip (enc x).toArray).foldl (λtmps (t,a)=>tmps.setIfInBounds t a) a.tmps,defers:=[] }:=by
    have h1:=qX.QX (E:=E4) (vs:=enc x) (F:=F) (t:=a.tmps) hN ⟨rfl,ha.size,ha.get⟩;rw[hd4] at h1;simpa using h1
   refine wpIn_mono ((hassign E4 _ (w.heap.size+1) i x ((hE.trans hE2).trans hE4) hd4 hx).get _ W hr4 hst4) ?_;intro e a1 w1 hq;cases e with
   |normal =>
    obtain⟨F1,H1,h1,h2,y,h3,h4⟩:=hq;have h6:=St.qH (hback4 _ _ (h4 w1 h2));refine⟨_,run_beginRound h6.lp (by rw[hrec]),?_⟩;obtain⟨E5,hd5,hE5,hst5,hback5⟩:=(St.swap (h6.Ft (r':={ rec .ready none with state:=.busy }))).enter;have hB:=hbody E5 _ (w.heap.size+1) i x y F1 ((hE.trans hE2).trans hE5) hd5 hx;rw[oH h3] at hB;refine wpIn_mono (hB.get _ _ ⟨h1.defers.trans (hd4.trans hd5.symm),h1.size,h1.get⟩ hst5) ?_;intro e a2 w2 hq2;cases e with
    |normal =>
     obtain⟨F2,H2,_,k2,k3⟩:=hq2;have k4:=St.qH (hback5 _ _ (k3.c w2 k2));refine⟨_,_,run_endRound none k4.lp,[J (i+1)],St.I0.2 ?_,.inl ⟨rfl,rfl⟩⟩;have k5:=k4.Ft (r':=rec .ready none);rw[hrec] at k5⊢;exact k5
    |exit id' =>
     obtain⟨F2,H2,_,k2,rfl,k3⟩:=hq2;have k4:=St.qH (hback5 _ _ (k3 w2 k2));refine⟨_,_,run_endRound _ k4.lp,[X i],St.I0.2 ?_,.inr ⟨rfl,rfl⟩⟩;have k5:=k4.Ft (r':=rec .done (some (.exit id')));rw[hrec] at k5⊢;exact k5
    |ret=>obtain⟨_,_,_,_,h⟩:=hq2;exact h.elim
    |panic c=>obtain⟨_,_,_,h⟩:=hq2;exact h.elim
    |_=>exact hq2.elim
   |ret=>obtain⟨_,_,_,_,h⟩:=hq;exact h.elim
   |exit id=>obtain⟨_,_,_,_,h⟩:=hq;exact h.elim
   |panic c=>obtain⟨_,_,_,h⟩:=hq;exact h.elim
   |_=>exact hq.elim
  ·rintro e w3 ⟨H',h1,⟨v,rfl⟩,h2⟩;have h3:=hback _ _ h1;have hpn:∀st pe,(rec st pe).pending=pe:=λ_ _=>by rw[hrec]
   rcases h2 with rfl|⟨i,hi,rfl⟩
   ·have h4:St E (By (w.heap.size+1) (rec .ready none)::(JP xs.length++Hd++[vD w.heap.size])) w3:=by simpa using St.I0.1 h3
    have h5:=run_endLoop (P:=P) h4.lp (by rw[hrec];simp);rw[hpn] at h5;refine⟨none,_,h5,?_⟩;have h6:∀o,St (E.jU [{ target:=.collected w.heap.size,args:=#[] }]) (vD w.heap.size::(JP xs.length++Hd)) (w3.putObj (w.heap.size+1) o):=λo=>by simpa using(St.qH (R:=[]) (h4.Ho (o:=o))).jU
    exact(hdone w.heap.size).get _ _ ⟨by simp[had,Env.jU],ha.size,ha.get⟩ (h6 _)
   ·have h4:St E (By (w.heap.size+1) (rec .done (some (.exit id)))::(JX i++Hs i++[vD w.heap.size])) w3:=by simpa using St.I0.1 h3
    have h5:=run_endLoop (P:=P) h4.lp (by rw[hrec];simp);rw[hpn] at h5;refine⟨some (.exit id),_,h5,?_⟩;refine wpIn_exit ?_;show(if id=id then _ else _);rw[if_pos rfl];have h6:∀o,St (E.jU [{ target:=.collected w.heap.size,args:=#[] }]) (vD w.heap.size::(JX i++Hs i)) (w3.putObj (w.heap.size+1) o):=λo=>by simpa using(St.qH (R:=[]) (h4.Ho (o:=o))).jU
    exact(hstop w.heap.size i hi).get _ _ ⟨by simp[had,Env.jU],ha.size,ha.get⟩ (h6 _)
def Ym(P:Program)(E:Env)(fn:Func)(W:Ending→List aL→Prop)(D:Nat):QF
 | .normal,F,H | .ret,F,H=>∃H1,Has (vD D) H H1∧gF P E fn W .ret F H1
 |_,_,_=>False
theorem WJ.ZB{fn:Func}{tail:Code}{D:Nat}{W:Ending→List aL→Prop}(h:C P N (E.jU [{ target:=.collected D,args:=#[] }]) tail (Ym P E fn W D) F H) :
  WJ P N (E.jU [{ target:=.collected D,args:=#[] }]) tail (bodyPostM (fz none) 0 P fn λe w'=>∃H',St E H' w'∧W e H') F H:=by
 refine⟨λa w ha hw=>wpIn_mono ((wpIn_wide (n:=0)).2 (h.get a w ha hw)) ?_⟩;have fin:∀(F:Nat→Value) (H:List aL) (a:Act) (w:World),qX (E.jU [{ target:=.collected D,args:=#[] }]) N F a→St (E.jU [{ target:=.collected D,args:=#[] }]) H w→(∃H1,Has (vD D) H H1∧gF P E fn W .ret F H1) →
   LeavesInM (fz none) 0 P fn a.tmps (λe w'=>∃H',St E H' w'∧W e H') a.defers .returning w:=by
  rintro F H a w hr hs ⟨H1,hh,v,H',k1,k2,k3⟩;rw[hr.defers];have hs2:St E (vD D::H1) w:=(hs.weaken (l:=[vD D]) (.cons hh .nil)).JC.conv (λF h=>⟨F,h,λ_ h=>h⟩) |> λ_=>by
   have:=hs.JC.aV (l:=[vD D]) (.cons hh .nil);simpa using this
  have hs3:=hs2.UE (o:=.deferred none);refine⟨by simp,.inl ⟨D,_,rfl,run_takeDeferred hs2.df,v,?_,H',k2 _ hs3,k3⟩⟩;rw[pV hr];exact k1 _ hs3
 intro e a w hq;cases e with
 |normal=>obtain⟨F,H,hr,hs,hp⟩:=hq;exact fin F H a w hr hs hp
 |ret=>obtain⟨F,H,hr,hs,hp⟩:=hq;exact fin F H a w hr hs hp
 |exit id=>obtain⟨_,_,_,_,h⟩:=hq;exact h.elim
 |panic c=>obtain⟨_,_,_,h⟩:=hq;exact h.elim
 |_=>exact hq.elim
theorem Ww{f:FuncId}{fn:Func}{c:Code}{args:Array Value}{W:Ending→List aL→Prop}(hf:P.funcs[f]?=some fn)(hb:fn.body=some c)(hn:fn.ntmps=N)(ha:args.size≤N)
  (h:E.ds=[]→WJ P N E c (bodyPostM (fz none) 0 P fn λe w'=>∃H',St E H' w'∧W e H') (Jr args) H):aK P E f args H W:=by
 intro hds w hw;refine qC (n:=0) (callsIn_of_wp_marks hf hb trivial ((h hds).get _ w ?_ hw));refine⟨hds.symm,by simp;omega,λi=>?_⟩;simp only[Jr,Fl,aBb,aEe,aBy,aEo,aDt];split
 ·rfl
 ·rename_i h;rw[aCu o_];split<;>rfl
theorem St.lH{p:Prop}{w:World}(h:St E H w)(hh:Has (iE p) H R):p:=by
 obtain⟨F,h1,_⟩:=h.has hh;exact h1.1
theorem aB.lH{p:Prop}(hp:p):aB E H (iE p::H):=λ_ hw=>hw.conv λF h=>⟨F,⟨λ_=>False,F,λb=>by simp,λ_ h=>h.elim,⟨hp,λ_ h=>h⟩,h⟩,λ_ h=>h⟩
theorem WJ.fact{c:Code}{p:Prop}(hh:Has (iE p) H R)(h:p→WJ P N E c Qw F H):WJ P N E c Qw F H:=⟨λa w ha hw=>(h (hw.lH hh)).get a w ha hw⟩
theorem CI.fact{r:Option Nat}{Q:QF}{c:Code}{p:Prop}(hh:Has (iE p) H R)(h:p→CI r P N E c Q F H):CI r P N E c Q F H:=⟨λa w ha hw=>(h (hw.lH hh)).get a w ha hw⟩
end
end
end Go.Proofs.YtmilalkjbojciaaGreat.Sep
