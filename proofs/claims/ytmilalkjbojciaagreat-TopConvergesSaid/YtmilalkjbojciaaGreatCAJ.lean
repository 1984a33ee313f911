/- Part AJ: what it needs. No condition. -/
import Derived.Test.YtmilalkjbojciaaGreatCAI
set_option linter.all false
set_option maxRecDepth 100000
set_option maxHeartbeats 8000000
open Go.Proofs.Tryz
namespace Go.Proofs.YtmilalkjbojciaaGreat.Sep
variable{E:Env}{H:List aG}{P:t!}{X:Type}{i j:Nat}{l:List aN}{o:Oper}{q:Nat}{t:q!}{v:p!}{x:r!}
section
open Go.RowKit Reg
open Mem hiding Rd
def Ru(x y:aL):decide ((⟨x.rep,x.seq⟩:aL)=⟨y.rep,y.seq⟩)=decide (x=y):=rfl
def WX(e:aN):BV gI e 8 (.bool true) e.cR:=BV.NQ rfl sD rfl
def I0(id:aL)(t:Option (Int×List aN))(d:Int×List aN):Ending->List aG->Prop:=λr f =>
 ∃e b a,r=.returned (.tuple #[uL id (t.getD d).1 e b a,.bool t.isSome])/\b=(t.getD d).2.length/\(b<=a/\a<=maxLen)/\f=[own gI e b a (t.getD d).2]
def Ia(id:aL)(made:Int)(a:Option (List aN))(l:List aN):Ending->List aG->Prop:=λr f =>
 ∃e d b,r=.returned (.tuple #[uL id made e d b,.bool a.isSome])/\d=(a.getD l).length/\(d<=b/\b<=maxLen)/\f=[own gI e d b (a.getD l)]
def Xi(E:Env)(x:aN)(g:Nat)(o:Int)(b:wD E ⟨g,2,none⟩ (a! o)):aF prog E 347 #[.agg x.cs.toArray,.pointer (some ⟨g,0,none⟩)] [] λr a=>r=.returned (.bool (decide (x.ord=o)))/\a=[]:=by
 refine x_ func347 ntmps347 ?_;intros
 exact aS
section
variable (E:Env) (id:aL) (made:Int) (A:n!) (n c:Nat) (l:List aN) (want:List bE) (X:n!) (nx cx:Nat)
def Qh(now:Int)(hr:Rd E gI A n c l)(hw:Rd E eT X nx cx want)(hl:n<=1000000)(hok:∀e∈l,e.ok)(hm:bQ made) :
  aF prog E 306 #[uL id made A n c,.slice X nx cx,a! now] [] (I0 id (rL id made l want now) (made,l)):=by
 have hn:=hr.len;have hmax:=cS;have hm2:=hm;unfold bQ at hm2;unfold I0;refine x_ func306 ntmps306 ?_;intros;refine oE (λM h1 h2=>Bi M id made A n c l want X nx cx h1 h2 hok hm) ?_;refine c_ ?_;intros;refine cU (λM h1=>Gv M id made A n c l h1 hl) ?_;rintro r H' ⟨A',c',rfl,⟨hc1,hc2⟩,rfl⟩;refine gk bU ?_;unfold rL;cases hq:next id made l want with
 |none =>
  dsimp only[Option.getD,Option.isSome];refine c_ ?_;apply mL;(· exact rfl);(· exact aJ);(· exact rfl);(· exact rfl);(· exact rfl);(· exact aV);(· exact rfl);(· exact aJ);rotate_left;(· exact(⟨_,_,_,rfl,hn,⟨hc1,hc2⟩,rfl⟩));(· exact aC)
 |some q =>
  dsimp only[Option.getD,Option.isSome];refine c_ ?_
  refine cV (λM=>JJ M id made A' n c' l) ?_;repeat ((fail_if_success (refine C.seq (x:=Code.region 6 _ _) ?_));first|refine mV ?_|refine tU ?_|intro _|refine Dr.two ?_ ?_)
  rename_i g3 g6 g8 g10;have hz:∃z,l[l.length - 1]?=z:=⟨_,rfl⟩
  have⟨z,hz⟩:=hz;rw[hz];refine C.cut (X:=Unit) (λ_=>[(2,a! now),(3,.pointer (some ⟨g3,0,none⟩)),(6,.pointer (some ⟨g6,0,none⟩)),(8,.pointer (some ⟨g8,0,none⟩)),(10,.pointer (some ⟨g10,0,none⟩)),(32,.bool (jV l).isSome)]) (λ_=>[aE g10 92 (z.getD JU).cs,aE g8 79 q.cs,aE g6 90 [a! 0,a! 0,a! 0,.slice none 0 0],aE g3 90 [a! id.rep,a! id.seq,a! made,.slice A' n c'],own gI A' n c' l]) (λ_=>True) ?_ ?_
  ·cases z with
   |none =>
    have ht:jV l=none:=by unfold jV;rw[hz]
    rw[ht];dsimp only[Option.getD,Option.isSome];refine c_ ?_
    exact⟨(),aK,aC,trivial⟩
   |some e =>
    dsimp only[Option.getD,Option.isSome];refine c_ ?_
    refine aP (λM=>D3 M e) ?_;cases ho:e.eO
    ·rw[Og hz ho];dsimp only[Option.isSome];refine c_ ?_
     exact⟨(),aK,aC,trivial⟩
    ·rw[Eb hz ho];dsimp only[Option.isSome];refine c_ ?_
     exact⟨(),aK,aC,trivial⟩
  rintro - G -;cases htip:jV l with
  |some e =>
   have⟨he,ho⟩:=BN htip;rw[hz] at he;subst he;have heok:e.ok:=hok e (dG hz);have hlt:=(cH.1 hz).1;have hs:IntKind.i64.wrap ((n:Int) - 1)=((n - 1:Nat):Int):=by rw[dY _ o_];omega
   rw[<-hn] at hz;rw[<-hn];dsimp only[Option.getD,Option.isSome];refine c_ ?_;refine C.fL 10 (l_ [0,1,2,3,4,5,6,7] (g_ 8 (n_ 9 (g_ 10 .nil)))) _ q_ q_ aB.refl (c_ ?_);refine eI (λM=>RI M e now heok) ?_;generalize e.dK now=x;rintro r H' ⟨rfl,rfl⟩;refine c_ ?_;apply mL;(· exact rfl);(· exact aJ);(· exact rfl);(· exact rfl);(· exact rfl);(· exact aV);(· exact rfl);(· exact aJ);rotate_left;(· exact(⟨_,_,_,rfl,by simp[hn],⟨hc1,hc2⟩,rfl⟩));(· exact aC)
  |none =>
   unfold next at hq;rw[htip] at hq;have⟨hlt,_⟩:=C3 hq;dsimp only[Option.getD,Option.isSome];refine c_ ?_
   refine L.lI sD (S.pY (T:=gI) (e:=(sM q now)) rfl rfl rfl rfl sD) ?_;rintro _ _ ⟨_,rfl,rfl⟩;refine c_ ?_;intros;rename_i h1 h2;apply mL;(· exact rfl);(· exact aJ);(· exact rfl);(· exact rfl);(· exact rfl);(· exact aV);(· exact rfl);(· exact aJ);rotate_left;(· exact(⟨_,_,_,rfl,by simp[hn],⟨h1,h2⟩,rfl⟩));(· exact aC)
def QI(k:bV)(hr:Rd E gI A n c l)(hl:n<=1000000):aF prog E 307 #[uL id made A n c,.agg k.cs.toArray] [] (Ia id made (dN id l k) l):=by
 have hn:=hr.len;have hmax:=cS;unfold Ia;refine x_ func307 ntmps307 ?_;intros;refine cU (λM h1=>Gv M id made A n c l h1 hl) ?_;rintro r H' ⟨A',c',rfl,⟨hc1,hc2⟩,rfl⟩;refine c_ ?_;refine cl sD sK aH (λM hE=>U0 M A' n c' l bK _ _ func347 q_ rfl [_] (λe=>decide (e.ord=k.ord)) (λE2 R2 hE2 x=>Xi E2 x _ k.ord ((wD.aE hE aV rfl).sub hE2))) ?_;rintro r H' ⟨rfl,rfl⟩;refine gk bU ?_;unfold idx;by_cases hid:k.id=id;case neg =>
  rw[Ci (.inl hid)];have hd:(!decide ((⟨k.id.rep,k.id.seq⟩:aL)=⟨id.rep,id.seq⟩))=true:=by rw[Ru,e! hid];rfl
  dsimp only[Option.getD,Option.isSome];refine c_ ?_;apply mL;(· exact rfl);(· exact aJ);(· exact rfl);(· exact rfl);(· exact rfl);(· exact aV);(· exact rfl);(· exact aJ);rotate_left;(· exact(⟨_,_,_,rfl,hn,⟨hc1,hc2⟩,rfl⟩));(· exact aC)
 have hd:(!decide ((⟨k.id.rep,k.id.seq⟩:aL)=⟨id.rep,id.seq⟩))=false:=by rw[Ru,d! hid];rfl
 cases hf:l.findIdx? (λe=>decide (e.ord=k.ord)) with
 |none =>
  rw[Ci (.inr hf)];dsimp only[Option.getD,Option.isSome];refine c_ ?_;apply mL;(· exact rfl);(· exact aJ);(· exact rfl);(· exact rfl);(· exact rfl);(· exact aV);(· exact rfl);(· exact aJ);rotate_left;(· exact(⟨_,_,_,rfl,hn,⟨hc1,hc2⟩,rfl⟩));(· exact aC)
 |some i =>
  have⟨e,he,_⟩:=Ja hf;have hi:=(cH.1 he).1;have hak:=Gn hid hf he;have hset:=WX e;have hs:IntKind.i64.wrap ((n:Int) - 1)=((n - 1:Nat):Int):=by rw[dY _ o_];omega
  cases hu:k.cJ
  ·have h2:(!k.cJ)=true:=by rw[hu];rfl
   cases ha:e.dN
   ·have h3:(!e.dN)=true:=by rw[ha];rfl
    rw[hak.trans (show _=some (l.set i e.cR) by rw[hu,ha];rfl)];dsimp only[Option.getD,Option.isSome];refine c_ ?_;intros;apply mL;(· exact rfl);(· exact aJ);(· exact rfl);(· exact rfl);(· exact rfl);(· exact aV);(· exact rfl);(· exact aJ);rotate_left;(· exact(⟨_,_,_,rfl,by simp[hn],⟨hc1,hc2⟩,rfl⟩));(· exact aC)
   ·have h3:(!e.dN)=false:=by rw[ha];rfl
    rw[hak.trans (show _=none by rw[hu,ha];rfl)];dsimp only[Option.getD,Option.isSome];refine c_ ?_;intros;apply mL;(· exact rfl);(· exact aJ);(· exact rfl);(· exact rfl);(· exact rfl);(· exact aV);(· exact rfl);(· exact aJ);rotate_left;(· exact(⟨_,_,_,rfl,hn,⟨hc1,hc2⟩,rfl⟩));(· exact aC)
  ·have h2:(!k.cJ)=false:=by rw[hu];rfl
   rw[hu] at hak;dsimp only;refine c_ ?_;intros;cases hun:e.gO
   ·rw[hak.trans (show _=none by rw[hun];rfl)];dsimp only[Option.getD,Option.isSome];refine aU (λM=>Bo M e) ?_;rw[hun];rintro r H' ⟨rfl,rfl⟩;refine c_ ?_;apply mL;(· exact rfl);(· exact aJ);(· exact rfl);(· exact rfl);(· exact rfl);(· exact aV);(· exact rfl);(· exact aJ);rotate_left;(· exact(⟨_,_,_,rfl,hn,⟨hc1,hc2⟩,rfl⟩));(· exact aC)
   by_cases hb:1<=e.back;case neg =>
    rw[hak.trans (show _=none by rw[hun,e! hb];rfl)];dsimp only[Option.getD,Option.isSome];refine aU (λM=>Bo M e) ?_;rw[hun];rintro r H' ⟨rfl,rfl⟩;refine c_ ?_;apply mL;(· exact rfl);(· exact aJ);(· exact rfl);(· exact rfl);(· exact rfl);(· exact aV);(· exact rfl);(· exact aJ);rotate_left;(· exact(⟨_,_,_,rfl,hn,⟨hc1,hc2⟩,rfl⟩));(· exact aC)
   by_cases hlast:i+1=l.length
   ·rw[hak.trans (show _=some (l.take i) by rw[hun,d! hb,d! hlast];rfl)];dsimp only[Option.getD,Option.isSome];refine aU (λM=>Bo M e) ?_;rw[hun];rintro r H' ⟨rfl,rfl⟩;refine gk bU ?_;repeat ((fail_if_success (refine C.seq (x:=Code.region 11 _ _) ?_));first|refine mV ?_|refine tU ?_|intro _|refine Dr.two ?_ ?_)
    refine C.conv (aB.Ng (T:=gI) (A:=A') (n:=n) (c:=c') (l:=l) (k:=i) o_ gR) (c_ ?_);apply mL;(· exact rfl);(· exact aJ);(· exact rfl);(· exact rfl);(· exact rfl);(· exact aV);(· exact rfl);(· exact aJ);rotate_left;(· exact(⟨_,_,_,rfl,by rw[dR];omega,⟨o_,hc2⟩,rfl⟩));(· exact aC)
   ·rw[hak.trans (show _=none by rw[hun,d! hb,e! hlast];rfl)];dsimp only[Option.getD,Option.isSome];refine aU (λM=>Bo M e) ?_;rw[hun];rintro r H' ⟨rfl,rfl⟩;refine c_ ?_;apply mL;(· exact rfl);(· exact aJ);(· exact rfl);(· exact rfl);(· exact rfl);(· exact aV);(· exact rfl);(· exact aJ);rotate_left;(· exact(⟨_,_,_,rfl,hn,⟨hc1,hc2⟩,rfl⟩));(· exact aC)
def YX(f:Rd E gI A n c l)(g:Rd E eT X nx cx want):aF prog E 206 #[uL id made A n c,.slice X nx cx] [] λr i=>r=.returned (.bool (quiet l want))/\i=[]:=by
 have k:=f.len;have b:=g.len;have d:=f.cap;have j:=g.cap;have e:=cS;unfold quiet;refine t_ func206 ntmps206 ?_;rw[<-k,<-b];by_cases h:n=nx
 ·rw[d! h];have a:(l.all λe => !e.eO) = !(l.any (·.eO)):=by simp[List.not_any_eq_all_not]
  rw[a];refine c_ ?_;intros;refine cV (λM=>aRo M A n c l) ?_;refine c_ ?_;exact aS
 ·rw[e! h];refine c_ ?_;intros;exact aS
def Xo(g:bW)(now:Int)(b:Rd E gI A n c l):aF prog E 220 #[uL id made A n c,.agg g.cs.toArray,a! now] [] λr a=>r=.returned (.bool (zU l g now))/\a=[]:=by
 unfold zU;refine x_ func220 ntmps220 ?_;intros
 refine cV (λM=>JJ M id made A n c l) ?_;cases l[l.length - 1]? with
 |none =>
  dsimp only[Option.getD,Option.isSome];refine c_ ?_;intros
  exact aS
 |some e =>
  dsimp only[Option.getD,Option.isSome];refine c_ ?_;intros
  refine A_ (λM=>Yu M e g now) ?_
  exact aS
def YY(g:bW)(now:Int)(o:Rd E gI A n c l)(p:Rd E eT X nx cx want)(d:∀e∈l,e.ok)(k:bQ made) :
  aF prog E 291 #[uL id made A n c,.slice X nx cx,.agg g.cs.toArray,a! now] [] λr f=>r=.returned (.bool (sT id made l want g now))/\f=[]:=by
 unfold sT;refine x_ func291 ntmps291 ?_;intros;refine rO (λM i j=>Bi M id made A n c l want X nx cx i j d k) ?_;generalize next id made l want=q;rintro r f ⟨rfl,rfl⟩;refine c_ ?_;intros
 refine cV (λM=>JJ M id made A n c l) ?_;have a:∃z,l[l.length - 1]?=z:=⟨_,rfl⟩;have⟨z,a⟩:=a;rw[a];generalize q.isSome=b;cases z with
 |none =>
  have m:jV l=none:=by unfold jV;rw[a]
  rw[m];dsimp only[Option.getD,Option.isSome];cases b;all_goals
   refine c_ ?_;intros;exact aS
 |some e =>
  dsimp only[Option.getD,Option.isSome];refine c_ ?_;intros;refine aP (λM=>D3 M e) ?_;cases h:e.eO
  ·rw[Og a h];dsimp only;cases b;all_goals
    refine c_ ?_;exact aS
  ·rw[Eb a h];dsimp only;cases b
   ·refine c_ ?_;exact aS
   ·refine c_ ?_;refine A_ (λM=>ZL M e g now) ?_;exact aS
end
section
variable {α:Type} {T:Ty α} {P:t!} {N:Nat} {E:Env} {F:Nat->p!} {ρ:r!->p!} {H H' R:List aG} {o:Oper} {A:n!} {n c k:Nat} {l:List α} {cs cs':List p!}
def pL(T:Ty α)(A:n!)(n c:Nat)(l:List α)(k:Nat)(cs:List p!):aG where
 holds F w:=n=l.length/\k<n/\n<=c/\c<=maxLen/\cs.length=T.size/\∃g a,A=some ⟨g,0,none⟩/\(∀b,F b↔b=g)/\w.heap[g]?=some (.cells a T.tid (0,0))/\a.size=c*T.size/\a.toList.take (n*T.size)=T.cE (l.take k)++cs++T.cE (l.drop (k+1))
 loc:=by
  rintro F w t ⟨h,i,j,m,p,g,a,q,d,e,r⟩ s;exact⟨h,i,j,m,p,g,a,q,d,(s _ ((d _).2 rfl)).trans e,r⟩
 lt:=by
  rintro F w b ⟨h,i,j,m,p,g,a,q,d,e,r⟩ hb;rw[(d _).1 hb];exact(xO.1 e).1
def Y2{e:α}(a:l[k]?=some e):T.cE l=T.cE (l.take k)++T.enc e++T.cE (l.drop (k+1)):=by
 obtain⟨b,rfl⟩:=cH.1 a;rw[bF,<-T.wS,<-lL b,<-T.D2,mE]
def aB.pL{e:α}(he:l[k]?=some e)(hr:eQ (own T A n c l) [Sep.pL T A n c l k (T.enc e)] H H'):aB E H H':=λw hw =>
 hw.kB hr rfl rfl rfl (bM _) (G:=λ_=>False) (λ_ _ _=>rfl) λF1 h1=>by
  have hk:=(cH.1 he).1;obtain⟨h0,⟨h2,_⟩|⟨g,cur,h2,h3,h4,h5,h6,h7,h8⟩⟩:=h1
  ·omega
  ·exact⟨F1,⟨F1,λ_=>False,λb=>by simp,λ_ _ h=>h,⟨h0,o_,h5,h6,T.vL e,g,cur,h2,h3,h4,h7,by rw[h8];exact Y2 he⟩,λ_ h=>h⟩,λb hb=>.inl hb,λb _ hb=>hb.elim⟩
def aB.aJp{e:α}{l':List α}(hl:l.set k e=l')(hr:eQ (Sep.pL T A n c l k (T.enc e)) [own T A n c l'] H H'):aB E H H':=λw hw =>
 hw.kB hr rfl rfl rfl (bM _) (G:=λ_=>False) (λ_ _ _=>rfl) λF1 h1=>by
  subst hl;have⟨h0,h1,h2,h3,h4,g,cur,h5,h6,h7,h8,h9⟩:=h1;refine⟨F1,⟨F1,λ_=>False,λb=>by simp,λ_ _ h=>h,⟨by rw[iM];exact h0,.inr ⟨g,cur,h5,h6,h7,h2,h3,h8,?_⟩⟩,λ_ h=>h⟩,λb hb=>.inl hb,λb _ hb=>hb.elim⟩;rw[h9,T.Ma o_,T.FP,T.zX]
def Cells.pL(h:Has (Sep.pL T A n c l k cs) H R)(t:q=k*T.size):Cells E H ((ad A).add q) cs:=by
 subst t;intro w v j u m;have⟨x,e,_⟩:=v.has h;obtain⟨y,e,B,D,J,g,d,rfl,K,p,M,r⟩:=e;have s:=(cH.1 m).1;show w.cell? (((⟨g,0,none⟩:Addr).add (k*T.size)).add j)=_;rw[uJ,uJ,lM,cell_of_row _ _ _ _ _ _ p];have a:(T.cE (l.take k)).length=k*T.size:=by rw[T.mH,dR,nM o_]
 have i:(k+1)*T.size<=n*T.size:=oC _ e;rw[tL,wI] at i;have b:(d.toList.take (n*T.size))[k*T.size+j]?=some u:=by
  rw[r,bF,wG o_,a,Lr,Aa s,m]
 rw[Il] at b;split at b
 ·simpa using b
 ·cases b
def Cell.pL(h:Has (Sep.pL T A n c l k cs) H R)(a:q=k*T.size)(b:cs[j]?=some v):Cell E H (((ad A).add q).add j) v:=λw d=>Cells.pL h a w d j v b
def Y.aNz{d:TypeDesc}(b:o.op=.load t x)(m:ρ x=.pointer (some (((ad A).add q).add j)))(g:P.underlying t=some d)(a:lY d=false)(h:Has (Sep.pL T A n c l k cs) H R)(e:q=k*T.size)(i:cs[j]?=some v):gM P E H ρ o v :=
 Y.load b m g a (Cell.pL h e i)
def Y.aJl{m:Nat}{vs:List p!}{d:TypeDesc}{b:TypeInfo}(p:o.op=.load t x)(B:ρ x=.pointer (some (((ad A).add q).add j)))(s:P.underlying t=some d)(e:lY d=true)(hi:P.info? t=some b)(g:b.size=m)
  (h:Has (Sep.pL T A n c l k cs) H R) (r:q=k*T.size) (a:rU cs j m vs):gM P E H ρ o (.agg vs.toArray) :=
 Y.HU p B s e hi (g.trans a.eq.1.symm) λw y i u v=>by
  rw[Cj];exact Cells.pL h r w y (j+i) u (a.eq.2 i u v)
def S.aEx{y:r!}{Z:TypeInfo}(ho:o.op=.store t x y)(s:ev F x=.pointer (some (((ad A).add q).add j)))(hy:ev F y=v)(K:v.oneCell'=true)(hi:prog.info? t=some Z)(hs:Z.size=1)(hq:q=k*T.size)
  (O:eQ (Sep.pL T A n c l k cs) [Sep.pL T A n c l k cs'] H H') (hj:j<cs.length) (w:cs.set j v=cs'):dF prog N E F H o λr H1=>r=undef/\H1=H':=by
 subst w hq;intro a u ha U Kw Q' hK;have⟨R,M,F0,h0⟩:=U.CF O;obtain⟨k0,k1,k2,k3,k4,g,b,rfl,k6,k7,k8,k9⟩:=h0;have d:v.cells=#[v]:=by cases v<;>first|rfl|cases K
 have i:(T.cE (l.take k)).length=k*T.size:=by rw[T.mH,dR,nM o_]
 have B:(k+1)*T.size<=n*T.size:=oC _ k1;have a8:n*T.size<=c*T.size:=oC _ k2;rw[tL,wI] at B;have e0:((ad (some ⟨g,0,none⟩)).add (k*T.size)).add j=⟨g,k*T.size+j,none⟩:=by show((⟨g,0,none⟩:Addr).add _).add _=_;rw[uJ,uJ,lM]
 have D:=run_storeVar_row (P:=prog) (u:=u) (v:=v) (q:=k*T.size+j) hi (by rw[d,hs];rfl) (by rw[d];intro x s;simp at s;subst s;exact K) k7 (by rw[d];simp;omega);unfold Oper.wp;rw[ha.eval];have m:(execOp (ev F) o).run prog u=.ok .skip (u.setRow g (b.toList.take (k*T.size+j)++v.cells.toList++b.toList.drop (k*T.size+j+v.cells.size)).toArray):=by
  simp only[execOp,ho,s,hy,Instr.storeAt,Instr.sureAddr,e0,iE,mY,iO,D]
 rw[m];refine hK undef _ _ ⟨rfl,rfl⟩ (St.setRow U O g _ λF1 j1=>?_);have⟨m0,m1,m2,m3,m4,g',J,p,W,h,m8,m9⟩:=j1;injection p with p;injection p with p _;subst p;rw[k7] at h;injection h with h;injection h with h _ _;subst h;have e:b.toList.take (k*T.size+j)++v.cells.toList++b.toList.drop (k*T.size+j+v.cells.size)=b.toList.set (k*T.size+j) v:=by
  rw[d,Lp,c! (by simp;omega)];simp
 refine⟨(W _).2 rfl,m0,m1,m2,m3,by rw[iM];exact m4,g,_,rfl,W,setRow_heap u g _ _ _ _ k7,?_,?_⟩
 ·rw[e];simp;exact k8
 ·rw[e];show(b.toList.set (k*T.size+j) v).take (n*T.size)=_;rw[List.take_set,k9,bF,Ip _ _ o_,i,Lr,List.set_append_left _ _ o_,bF]
def aB.FN{e:α}(b:l[k]?=some e)(a:T.enc e=cs)(d:eQ (own T A n c l) [Sep.pL T A n c l k cs] H H'):aB E H H':=by subst a;exact aB.pL b d
def aB.aAf{e:α}{l':List α}(a:T.enc e=cs)(b:l.set k e=l')(d:eQ (Sep.pL T A n c l k cs) [own T A n c l'] H H'):aB E H H':=by subst a;exact aB.aJp b d
def S.aIf{y:r!}{vs:List p!}{W:TypeInfo}(ho:o.op=.store t x y)(hx:ev F x=.pointer (some ((ad A).add q)))(hy:ev F y=.agg vs.toArray)(h1:vs.all Value.oneCell'=true)(hi:prog.info? t=some W)(hs:vs.length=W.size)(hq:q=k*T.size)
  (M:eQ (Sep.pL T A n c l k cs) [Sep.pL T A n c l k cs'] H H') (hj:vs.length<=cs.length) (w:vs++cs.drop vs.length=cs'):dF prog N E F H o λr Z=>r=undef/\Z=H':=by
 subst w hq;intro a u ha O Kw Q' hK;have⟨R,J,F0,h0⟩:=O.CF M;obtain⟨k0,k1,k2,k3,k4,g,b,rfl,k6,k7,k8,k9⟩:=h0;have i:(Value.agg vs.toArray).cells.toList=vs:=by simp[Value.cells]
 have e:(Value.agg vs.toArray).cells.size=vs.length:=by simp[Value.cells]
 have d:(T.cE (l.take k)).length=k*T.size:=by rw[T.mH,dR,nM o_]
 have B:(k+1)*T.size<=n*T.size:=oC _ k1;have a8:n*T.size<=c*T.size:=oC _ k2;rw[tL,wI] at B;have e0:(ad (some ⟨g,0,none⟩)).add (k*T.size)=⟨g,k*T.size,none⟩:=by show(⟨g,0,none⟩:Addr).add _=_;rw[uJ,lM]
 have m:=run_storeVar_row (P:=prog) (u:=u) (v:=.agg vs.toArray) (q:=k*T.size) hi (by rw[e,hs]) (by rw[i];exact qR.1 h1) k7 (by rw[e];omega);rw[i,e] at m;unfold Oper.wp;rw[ha.eval];have j:(execOp (ev F) o).run prog u=.ok .skip (u.setRow g (b.toList.take (k*T.size)++vs++b.toList.drop (k*T.size+vs.length)).toArray):=by
  simp only[execOp,ho,hx,hy,Instr.storeAt,Instr.sureAddr,e0,iE,mY,iO,m]
 rw[j];refine hK undef _ _ ⟨rfl,rfl⟩ (St.setRow O M g _ λF1 j1=>?_);have⟨m0,m1,m2,m3,m4,g',D,p,U,h,m8,m9⟩:=j1;injection p with p;injection p with p _;subst p;rw[k7] at h;injection h with h;injection h with h _ _;subst h;refine⟨(U _).2 rfl,m0,m1,m2,m3,by simp;omega,g,_,rfl,U,setRow_heap u g _ _ _ _ k7,?_,?_⟩
 ·simp;omega
 ·show(b.toList.take (k*T.size)++vs++b.toList.drop (k*T.size+vs.length)).take (n*T.size)=_;have K:b.toList.take (k*T.size)=T.cE (l.take k):=by
   have:=j! (List.take (k*T.size)) k9;rw[E8,nM o_,bF,qT d] at this;exact this
  have hd:(b.toList.take (n*T.size)).drop (k*T.size+vs.length)=cs.drop vs.length++T.cE (l.drop (k+1)):=by
   rw[k9,bF,<-pU,rQ d,PJ hj]
  have s:(b.toList.take (k*T.size)++vs).length=k*T.size+vs.length:=by rw[bR,K,d]
  rw[Gc,s,fX o_,<-List.drop_take,hd,K];simp
end
section
variable {E:Env} {X:Type} {f:X->aG} {l:List X} {H R:List aG}
theorem aB.swap{x x':X}(b:l[i]?=some x)(m:fJ [f x',aT f l] H R):aB E H (aT f (l.set i x')::R):=by
 have j:=(cH.1 b).1;have d:aB E H (f x'::aT f l::R):=λw a=>a.cC m;have e:aB E (f x'::aT f l::R) (f x::aT f (l.eraseIdx i)::f x'::R):=aB.out (f:=f) (l:=l) (Has.bJ Has.aR) b;have g:aB E (f x::aT f (l.eraseIdx i)::f x'::R) (aT f (l.set i x')::f x::R):=aB.nC (f:=f) (l:=l.eraseIdx i) (i:=i) (x:=x') (.cons (.bJ (.bJ .aR)) (.cons (.bJ .aR) .nil)) (JV j);have h:aB E (aT f (l.set i x')::f x::R) (aT f (l.set i x')::R):=λw a=>(a.cC (l:=[f x]) (.cons (.bJ .aR) .nil)).right;exact d.trans (e.trans (g.trans h))
end
section
variable {P:t!} {N z:Nat} {E:Env} {Q:QF} {F:Nat->p!} {H:List aG}
def lJ.val{a:Td}{l:List Oper}{e:List aG}{d:Nat}{j:Op}{ty:q!}{b:String}{g:Array Edge}{gd:Option (Nat×Bool)}(hi:nth l i=some ⟨some d,j,ty,b,g,gd⟩)(p:d<N)(q:gV l N F true gd)
  (r:gM P E H (ev F) ⟨some d,j,ty,b,g,gd⟩ v) (m:aB E H e) (h:Dr P N E z l Q e a (gK F d v) H):lJ P N E z l Q e i a F H :=
 lJ.go hi (by rintro k ⟨⟩;exact p) q (dF.IZ r ⟨m,h⟩)
def Dr.val{a:Td}{l:List Oper}{e:List aG}{d:Nat}{j:Op}{ty:q!}{b:String}{g:Array Edge}{gd:Option (Nat×Bool)}(hi:nth l i=some ⟨some d,j,ty,b,g,gd⟩)(p:d<N)(q:gV l N F true gd)
  (r:gM P E H (ev F) ⟨some d,j,ty,b,g,gd⟩ v) (m:aB E H e) (h:Dr P N E z l Q e a (gK F d v) H):Dr P N E z l Q e (.one i true a) F H :=
 Dr.all (lJ.val hi p q r m h)
def lJ.D5{todo:Td}{l:List Oper}{Hk:List aG}{d:Option Nat}{op:Op}{ty:q!}{pos:String}{af:Array Edge}{gd:Option (Nat×Bool)}{K:p!->List aG->Prop}(hi:nth l z=some ⟨d,op,ty,pos,af,gd⟩)(hd:∀k,d=some k->k<N)(hg:gV l N F true gd)
  (h:dF P N E F H ⟨d,op,ty,pos,af,gd⟩ K) (hk:∀v H',K v H'->qP P N E z l Q todo (BQ F d v) H'):lJ P N E z l Q Hk z todo F H:=by
 refine⟨λlisted a u hcl hs hc ha hu hk2=>?_⟩;have hi':l.toArray[z]?=some _:=(nW l z).symm.trans hi;unfold wpOp;simp only[hi',hg.wanted (o:=⟨d,op,ty,pos,af,gd⟩) ha,if_true];refine .inl (h a u ha hu _ _ ?_);intro v H' u' hA hu';refine⟨λhz=>i! rfl hz,λ_=>(hk v H' hA).get _ _ u' hc ?_ hu'⟩;cases d with
 |none=>exact ha
 |some k=>exact ha.put (hd k rfl) v
end
def aOp{a b:List p!}(h:a=b:=by first|(conv=>lhs;simp only[gL,tH,List.drop_succ_cons,uG,List.drop_nil,mX,jD,Nat.reduceAdd])|rfl):a=b:=h
def EU{ρ:r!->p!}(h:gM P E H ρ o v:=by first|(apply Y.aNz;exact rfl;exact rfl;exact rfl;exact rfl;exact aV;exact rfl;exact rfl)|(apply Y.loadE0;exact rfl;exact rfl;exact rfl;exact rfl;exact aV;exact rfl;exact rfl)|(apply Y.aJl;exact rfl;exact rfl;exact rfl;exact rfl;exact rfl;exact rfl;exact aV;exact rfl;exact F9)|(apply Y.loadEA0;exact rfl;exact rfl;exact rfl;exact rfl;exact rfl;exact rfl;exact aV;exact rfl;exact F9)):gM P E H ρ o v:=h
def Kh{ρ:r!->p!}(h:gM P E H ρ o v:=by first|exact kP|exact EU|fail):gM P E H ρ o v:=h
def ES{N:Nat}{F:Nat->p!}{K:p!->List aG->Prop}(h:dF P N E F H o K:=by first|exact CJ|(apply S.aEx;exact rfl;exact rfl;exact cQ;exact rfl;exact rfl;exact rfl;exact rfl;exact gR;exact OH;exact Uf)|(apply S.aIf;exact rfl;exact rfl;exact cQ;exact rfl;exact rfl;exact rfl;exact rfl;exact gR;exact OH;exact aOp)):dF P N E F H o K:=h
def Vh{p q:Prop}(hq:q)(h:kD q->p:=by intro h;first|exact mV h.out|(apply L.val;decide;exact EU;exact h.out)|(apply qP.take;exact rfl;decide;exact bB;exact EU;exact h.out)|(apply Dr.take;exact rfl;decide;exact bB;exact EU;exact h.out)|(apply lJ.val;exact rfl;decide;exact bB;exact Kh;exact aC;exact h.out)|(apply Dr.val;exact rfl;decide;exact bB;exact Kh;exact aC;exact h.out)):p:=h ⟨hq⟩
def M8{p q:Prop}(hq:q)(h:kD q->p:=by intro h;first|(apply L.lI;decide;exact ES;(first|exact x0 h.out|exact x1 h.out|exact x2 h.out))|(apply L.DR;exact ES;(first|exact x0 h.out|exact x1 h.out|exact x2 h.out))|(apply Dr.FX;exact rfl;(· rintro k ⟨⟩<;>decide);exact bB;exact ES;(first|exact x0 h.out|exact x1 h.out|exact x2 h.out))|(apply Dr.D5;exact rfl;(· rintro k ⟨⟩<;>decide);exact bB;exact ES;(first|exact x0 h.out|exact x1 h.out|exact x2 h.out))|(apply lJ.D5;exact rfl;(· rintro k ⟨⟩<;>decide);exact bB;exact ES;(first|exact x0 h.out|exact x1 h.out|exact x2 h.out))|(apply lJ.mK;exact rfl;(· rintro k ⟨⟩<;>decide);exact bB;exact ES;(first|(refine y0 ?_ ?_;exact aC;exact h.out)|(refine y1 ?_ ?_;(· intro _;exact aC);exact h.out)|(refine y2 ?_ ?_;(· intro _ _;exact aC);exact h.out)))|(apply Dr.mK;exact rfl;(· rintro k ⟨⟩<;>decide);exact bB;exact ES;(first|(refine y0 ?_ ?_;exact aC;exact h.out)|(refine y1 ?_ ?_;(· intro _;exact aC);exact h.out)|(refine y2 ?_ ?_;(· intro _ _;exact aC);exact h.out)))):p:=h ⟨hq⟩
def bN{p q:Prop}(hq:q)(h:kD q->p:=by intro h;first|exact w_ h.out|(apply L.val;decide;exact EU;exact h.out)|(apply qP.take;exact rfl;decide;exact bB;exact EU;exact h.out)|(apply Dr.take;exact rfl;decide;exact bB;exact EU;exact h.out)|(apply lJ.val;exact rfl;decide;exact bB;exact Kh;exact aC;exact h.out)|(apply Dr.val;exact rfl;decide;exact bB;exact Kh;exact aC;exact h.out)|exact M8 h.out|(apply gd;exact bU;exact aC;exact h.out)|(apply gk;exact bU;exact h.out)):p:=h ⟨hq⟩
theorem i_{p q:Prop}(hq:q)(h:kD q->p:=by intro h;intro e H';(repeat first|rintro ⟨rfl,rfl⟩|with_reducible refine xE_ λzz0=>?_|with_reducible refine xA_ λzz0=>?_);(repeat first|refine bN ?_|intro zz0);(repeat revert zz0);exact h.out):p:=h ⟨hq⟩
theorem h_{p q:Prop}(hq:q)(h:kD q->p:=by intro h;(repeat first|refine bN ?_|intro zz0);(repeat revert zz0);exact h.out):p:=h ⟨hq⟩
theorem D_{K L p q:Prop}(hf:K)(hn:L)(hq:q)(h:K->L->kD q->p:=by intro f n h;refine t_ f n ?_;exact h_ h.out):p:=h hf hn ⟨hq⟩
end
section
structure bC where
 made:Int
 l:List aN
 w:List bE
def bC.DH(s:bC)(id:aL):Option aM:=next id s.made s.l s.w
def bC.dK(s:bC)(id:aL)(now:Int):bC:=⟨((rL id s.made s.l s.w now).getD (s.made,s.l)).1,((rL id s.made s.l s.w now).getD (s.made,s.l)).2,s.w⟩
def bC.cR(s:bC)(id:aL)(k:bV):bC:=⟨s.made,(dN id s.l k).getD s.l,s.w⟩
structure bC.ok(s:bC):Prop where
 oJ:∀e∈s.l,e.ok
 D1:∀f∈s.w,f.ok
 vR:0<=s.made
 qC:s.made<=255
 len:(s.l.length:Int)<=s.made
 wide:s.w.length<=8
theorem aN.aEb{e:aN}{g:Bool}(h:e.ok):(e.mark g).ok:=h
def aN.I3{e:aN}(h:e.ok):e.cR.ok:=h
def Ut{want:List bE}(h:∀e∈l,e.ok):∀e∈settle want l,e.ok:=by
 intro e b;obtain⟨i,a,rfl⟩:=oV b;rw[vW] at a;have c:l[i]?=some l[i]:=bS a;have d:=CM (want:=want) c
 grind [List.getElem?_eq_getElem,vW,aN.aEb,List.getElem_mem]
def aN.K6{e:aN}{now:Int}(h:e.ok)(b:bQ now):(e.dK now).ok:=by
 unfold aN.dK;have hb:e.nt=if e.gO then e.back else e.bI:=rfl;split
 ·rename_i k;have⟨c,d,f,i,g,j⟩:=h;unfold bQ at f g;split
  ·rename_i a;rw[c! a] at hb;exact⟨c,d,f,i,by unfold bQ;dsimp only;omega,b⟩
  ·rename_i a;rw[b! a] at hb;exact⟨c,d,by unfold bQ;dsimp only;omega,b,g,j⟩
 ·exact h
def aBv{id:aL}{made:Int}{want:List bE}{now:Int}(h:next id made l want=none):rL id made l want now=none:=by
 grind [rL]
theorem Ok{id:aL}{made:Int}{want:List bE}{now:Int}{q:aM}{e:aN}(h:next id made l want=some q)(a:jV l=some e):rL id made l want now=some (made,l.set (l.length - 1) (e.dK now)):=by
 grind [rL]
def Oj{id:aL}{made:Int}{want:List bE}{now:Int}{q:aM}(h:next id made l want=some q)(a:jV l=none):rL id made l want now=some (made+1,l++[sM q now]):=by
 grind [rL]
theorem Ot{s:bC}{id:aL}{now:Int}:s.dK id now=s\/(∃e,jV s.l=some e/\e.nt<8/\s.dK id now=⟨s.made,s.l.set (s.l.length - 1) (e.dK now),s.w⟩) \/
  (∃f,jV s.l=none/\s.made<255/\s.w[s.l.length]?=some f/\s.dK id now=⟨s.made+1,s.l++[sM ⟨⟨id,s.made+1,false⟩,f⟩ now],s.w⟩):=by
 cases a:next id s.made s.l s.w with
 |none =>
  refine .inl ?_;unfold bC.dK;rw[aBv a];rfl
 |some q =>
  cases c:jV s.l with
  |some e =>
   refine .inr (.inl ⟨e,rfl,?_,?_⟩)
   ·unfold next at a;rw[c] at a;dsimp only at a;by_cases d:e.nt<8
    ·exact d
    ·rw[b! d] at a;cases a
   ·unfold bC.dK;rw[Ok a c];rfl
  |none =>
   have b:=a;unfold next at b;rw[c] at b;obtain⟨g,f,h,rfl⟩:=C3 b;refine .inr (.inr ⟨f,rfl,g,h,?_⟩);unfold bC.dK;rw[Oj a c];rfl
def Po{s:bC}{id:aL}{k:bV}:s.cR id k=s\/(∃i e,s.l[i]?=some e/\e.ord=k.ord/\e.dN=false/\s.cR id k=⟨s.made,s.l.set i e.cR,s.w⟩) \/
  (∃i e,s.l[i]?=some e/\e.gO=true/\1<=e.back/\i+1=s.l.length/\s.cR id k=⟨s.made,s.l.take i,s.w⟩):=by
 by_cases h:k.id=id;case neg=>exact .inl (by unfold bC.cR;rw[Ci (.inl h)];rfl)
 cases f:s.l.findIdx? (λe=>decide (e.ord=k.ord)) with
 |none=>exact .inl (by unfold bC.cR;rw[Ci (.inr f)];rfl)
 |some i =>
  have⟨e,d,g⟩:=Ja f;have a:=Gn h f d;have g:=g! g;by_cases c:(!k.cJ && !e.dN)=true
  ·rw[c! c] at a;have c:k.cJ=false/\e.dN=false:=by simpa using c
   exact .inr (.inl ⟨i,e,d,g,c.2,by unfold bC.cR;rw[a];rfl⟩)
  ·rw[b! c] at a;by_cases b:(k.cJ&&(e.gO&&(decide (1<=e.back)&&decide (i+1=s.l.length))))=true
   ·rw[c! b] at a;have b:k.cJ=true/\e.gO=true/\1<=e.back/\i+1=s.l.length:=by simpa using b
    exact .inr (.inr ⟨i,e,d,b.2.1,b.2.2.1,b.2.2.2,by unfold bC.cR;rw[a];rfl⟩)
   ·rw[b! b] at a;exact .inl (by unfold bC.cR;rw[a];rfl)
def bC.K6{s:bC}{id:aL}{now:Int}(h:s.ok)(d:bQ now):(s.dK id now).ok:=by
 rcases Ot (s:=s) (id:=id) (now:=now) with b|⟨e,g,_,b⟩|⟨f,g,m,j,b⟩
 ·grind
 ·rw[b];have⟨i,_⟩:=BN g;refine⟨λx c=>?_,h.D1,h.vR,h.qC,by rw[iM];exact h.len,h.wide⟩;rcases Ca c with a|rfl
  ·exact h.oJ x a
  ·exact aN.K6 (h.oJ e (dG i)) d
 ·rw[b];have k:=h.vR;have l:=h.len;refine⟨λx c=>?_,h.D1,by dsimp only;omega,by dsimp only;omega,by simp;omega,h.wide⟩;rcases eL.1 c with a|a
  ·exact h.oJ x a
  ·rw[eM] at a;subst a;refine⟨by unfold bQ;dsimp only;omega,h.D1 f (dG j),by unfold bQ;dsimp only;omega,d,by unfold bQ;dsimp only;omega,by unfold bQ;dsimp only;omega⟩
def bC.I3{s:bC}{id:aL}{k:bV}(h:s.ok):(s.cR id k).ok:=by
 rcases Po (s:=s) (id:=id) (k:=k) with a|⟨i,e,c,_,_,a⟩|⟨i,e,c,_,_,f,a⟩
 ·grind
 ·rw[a];refine⟨λx b=>?_,h.D1,h.vR,h.qC,by rw[iM];exact h.len,h.wide⟩;rcases Ca b with d|rfl
  ·exact h.oJ x d
  ·exact aN.I3 (h.oJ e (dG c))
 ·rw[a];have g:=h.len;exact⟨λx b=>h.oJ x (mD b),h.D1,h.vR,h.qC,by dsimp only;rw[dR];omega,h.wide⟩
end
section
open Go.RowKit Reg
open Mem hiding Rd
structure cM where
 id:aL
 made:Int
 A:Option Addr
 n:Nat
 c:Nat
 l:List aN
 X:Option Addr
 nx:Nat
 cx:Nat
 w:List bE
abbrev cM.cs(x:cM):List p!:=[a! x.id.rep,a! x.id.seq,a! x.made,.slice x.A x.n x.c,.slice x.X x.nx x.cx]
def iF:Ty cM where
 val x:=.agg x.cs.toArray
 size:=5
 bytes:=72
 tid:=242
 zero:=.agg #[a! 0,a! 0,a! 0,.slice none 0 0,.slice none 0 0]
 hlen _:=rfl
 kL a u h:=by simp[Value.cells] at h;rcases h with rfl|rfl|rfl|rfl|rfl<;>rfl
 fZ:=sD
 hzero:=rfl
 lF:=q_
 mQ:=.inl ⟨q_,λ_=>⟨_,rfl⟩⟩
instance aSz:pR iF 72:=⟨rfl⟩
structure AX where
 id:aL
 made:Int
 A:Option Addr
 n:Nat
 c:Nat
 l:List aN
abbrev AX.cs(x:AX):List p!:=[a! x.id.rep,a! x.id.seq,a! x.made,.slice x.A x.n x.c]
def rY:Ty AX where
 val x:=.agg x.cs.toArray
 size:=4
 bytes:=48
 tid:=90
 zero:=.agg #[a! 0,a! 0,a! 0,.slice none 0 0]
 hlen _:=rfl
 kL a u h:=by simp[Value.cells] at h;rcases h with rfl|rfl|rfl|rfl<;>rfl
 fZ:=sD
 hzero:=rfl
 lF:=q_
 mQ:=.inl ⟨q_,λ_=>⟨_,rfl⟩⟩
instance aTa:pR rY 48:=⟨rfl⟩
def aEa:Rec prog 242 [a! 0,a! 0,a! 0,.slice none 0 0,.slice none 0 0] [(0,4),(4,1)]:=⟨q_,q_⟩
instance aSy:iB 242 [a! 0,a! 0,a! 0,.slice none 0 0,.slice none 0 0] [(0,4),(4,1)]:=⟨aEa⟩
def aKk:Rec prog 310 [.bool false,a! 0,.slice none 0 0] [(0,1),(1,1),(2,1)]:=⟨q_,q_⟩
instance aSj:iB 310 [.bool false,a! 0,.slice none 0 0] [(0,1),(1,1),(2,1)]:=⟨aKk⟩
abbrev fU(x:cM):aG:=own gI x.A x.n x.c x.l
abbrev iA(x:cM):aG:=own eT x.X x.nx x.cx x.w
abbrev lg(g:Nat)(B:n!)(n d:Nat)(r:Int):aG:=aE g 310 [.bool true,a! r,.slice B n d]
abbrev jA(g:Nat)(B:n!)(n d:Nat)(r:Int)(ls:List cM):List aG:=[lg g B n d r,own iF B n d ls,aT fU ls,aT iA ls]
def cM.s(x:cM):bC:=⟨x.made,x.l,x.w⟩
structure cM.ok(r:Int)(i:Nat)(e:cM):Prop where
 id:e.id=⟨r,((i+1:Nat):Int)⟩
 n:e.n=e.l.length
 c:e.n<=e.c/\e.c<=maxLen
 nx:e.nx=e.w.length
 cx:e.nx<=e.cx/\e.cx<=maxLen
 s:e.s.ok
def oU(r:Int)(ls:List cM):Prop:=∀(i:Nat) (e:cM),ls[i]?=some e->e.ok r i
def oU.set{r:Int}{ls:List cM}(h:oU r ls){e:cM}(c:e.ok r i):oU r (ls.set i e):=by
 intro j x a;rw[Gb] at a;split at a
 ·rename_i b;subst b;split at a
  ·injection a with a;subst a;exact c
  ·cases a
 ·exact h j x a
def oU.push{r:Int}{ls:List cM}(h:oU r ls){e:cM}(c:e.ok r ls.length):oU r (ls++[e]):=by
 intro j x a;by_cases f:j<ls.length
 ·rw[Aa f] at a;exact h j x a
 ·rw[wG o_] at a;have b:j - ls.length=0:=by
   have:=(cH.1 a).1;simp at this;omega
  rw[b] at a;injection a with a;subst a;rw[show j=ls.length by omega];exact c
def bC.TW:(⟨0,[],[]⟩:bC).ok:=⟨λ_ h=>(cZ h).elim,λ_ h=>(cZ h).elim,dV _,by decide,dV _,by decide⟩
section
variable (E:Env) (g:Nat) (B:n!) (n d:Nat) (r:Int) (ls:List cM)
def Sd:aF prog E 264 #[a! r] [] λe b=>∃a,e=.returned (.pointer (some ⟨a,0,none⟩))/\b=[lg a none 0 0 r]:=by
 refine D_ func264 ntmps264 ?_;intros
 exact dS ⟨_,rfl,rfl⟩
def lid(s:Int):aF prog E 348 #[.pointer (some ⟨g,0,none⟩),a! s] [lg g B n d r] λe a=>e=.returned (.agg #[a! r,a! s])/\a=[lg g B n d r]:=by
 refine D_ func348 ntmps348 ?_;intros
 exact wR
def GS(r:Int)(n:Nat)(a:aL):Prop:=a.rep=r/\1<=a.seq/\a.seq<=n
def NC(a:aL)(k:n<=100000)(h:¬GS r n a):aF prog E 305 #[.pointer (some ⟨g,0,none⟩),.agg a.cs.toArray] [lg g B n d r] λe c=>e=.returned (.pointer none)/\c=[lg g B n d r]:=by
 have b:=cS;unfold GS at h;refine t_ func305 ntmps305 ?_;by_cases f:a.rep=r
 ·by_cases i:a.seq<1;rotate_left;have j:(n:Int)<a.seq:=o_;all_goals
   refine h_ ?_;intros;refine rA (l_ [0,1,2,3,4,5,6,7,8,9,10,11,12,13,14,15,16,17,18,19,20,21,22,23,24,25,26,27,28,29,30,31,32] .nil) (h_ ?_);exact aS
 ·refine h_ ?_;intros;refine rA (l_ [0,1,2,3,4,5,6,7,8,9,10,11,12,13,14,15,16,17,18,19,20,21,22,23,24,25,26,27,28,29,30,31,32] .nil) (h_ ?_);exact aS
def Fg(i:Nat)(f:n<=100000)(hi:i<n){e:cM}(c:ls[i]?=some e):aF prog E 305 #[.pointer (some ⟨g,0,none⟩),.agg #[a! r,a! ((i+1:Nat):Int)]] [lg g B n d r,own iF B n d ls] λe b=>e=.returned (.pointer (some ((ad B).add (i*iF.size))))/\b=[lg g B n d r,own iF B n d ls]:=by
 have a:=cS;have h:IntKind.i64.wrap (((i+1:Nat):Int) - 1)=((i:Nat):Int):=by rw[dY _ o_];omega
 refine D_ func305 ntmps305 ?_;intros
 refine rA (l_ [0,1,2,3,4,5,6,7,8,9,10,11,12,13,14,15,16,17,18,19,20,21,22,23,24,25,26,27,28,29,30,31,32] .nil) (h_ ?_)
 refine rA (l_ [0,1,2,3,4,5,6,7,8] .nil) (h_ ?_)
 exact aS
def Uk(A:n!)(n c:Nat)(l:List bE)(h:Rd E eT A n c l)(i:n<=100000):aF prog E 232 #[.slice A n c] [] λr f=>∃e b,r=.returned (.slice e n b)/\(n<=b/\b<=maxLen)/\f=[own eT e n b l]:=by
 refine t_ func232 ntmps232 ?_;cases A with
 |none =>
  obtain⟨rfl,rfl⟩:=h.none;refine h_ ?_
  exact aX rfl aJ (aB.nil eT) ⟨_,_,rfl,⟨bM _,bY _⟩,rfl⟩
 |some a =>
  refine h_ ?_;intros
  exact aX rfl aJ aC (⟨_,_,rfl,⟨by assumption,by assumption⟩,rfl⟩)
end
def bC.iI(s:bC)(id:aL)(k:bV):Bool:=match s.DH id with
 |some q=>decide (q.key=k)
 |none=>false
def bC.put(s:bC)(w:List bE):bC:=⟨s.made,settle w s.l,w⟩
def bC.Tt{s:bC}{w:List bE}(h:s.ok)(b:∀f∈w,f.ok)(a:w.length<=8):(s.put w).ok :=
 ⟨Ut h.oJ,b,h.vR,h.qC,by show((settle w s.l).length:Int)<=s.made;rw[vW];exact h.len,a⟩
def map_set{ls:List cM}{e:cM}:(ls.set i e).map cM.s=(ls.map cM.s).set i e.s:=List.map_set
theorem CL{l:List X}{x:X}(h:l[i]?=some x):l.set i x=l:=by
 apply uH;intro j;rw[Gb];split
 ·rename_i a;subst a;rw[c! (cH.1 h).1,h]
 ·rfl
def Ew(g:Nat)(B:n!)(n d:Nat)(r:Int)(ls:List cM)(i:Nat)(s:bC)(b:Bool):Ending->List aG->Prop:=λx c =>
 ∃a,x=.returned (.bool b)/\oU r a/\a.length=ls.length/\a.map cM.s=(ls.map cM.s).set i s/\c=jA g B n d r a
def nF{fn:Func}{R:Ending->List aG->Prop}{F:Nat->p!}{H1:List aG}{e:Ex}(hc:aB E H H1)(h:mB P E fn R e F H1)(hp:∀c,e≠.panic c:=by intro c h;cases h):mB P E fn R e F H:=by
 cases e with
 |normal=>have⟨v,H',h1,h2,h3⟩:=h;exact⟨v,H',λw hw=>h1 w (hc w hw),hc.trans h2,h3⟩
 |ret=>have⟨v,H',h1,h2,h3⟩:=h;exact⟨v,H',λw hw=>h1 w (hc w hw),hc.trans h2,h3⟩
 |exit id=>exact h
 |panic c=>exact i! rfl (hp c)
def Qy(L:List aG):aG:=⟨λF w=>fG L F w,λh a=>BI h a,λh hb=>DQ h hb⟩
def Yt{f:X->aG}{l l':List X}(h:l'.map f=l.map f):aT f l'=aT f l:=by
 show Qy (l'.map f)=Qy (l.map f);rw[h]
def aSh{a:aG}{H':List aG}(h:eQ a [a] H H'):H'=H:=by
 induction h with
 |aR=>rfl
 |bJ _ b=>rw[b]
theorem aB.same{f:X->aG}{l:List X}{H':List aG}{x x':X}(h:l[i]?=some x)(b:f x'=f x)(a:eQ (aT f l) [aT f (l.set i x')] H H'):aB E H H':=by
 have e:aT f (l.set i x')=aT f l:=by
  have c:(l.set i x').map f=l.map f:=by rw[List.map_set,b,CL (by rw[mM,h];rfl)]
  exact Yt c
 rw[e] at a;rw[aSh a];exact aB.refl
def aB.DU{B:n!}{n d:Nat}{ls a:List cM}{H':List aG}(e:cM)(b:ls.set i e=a)(c:eQ (Sep.pL iF B n d ls i [a! e.id.rep,a! e.id.seq,a! e.made,.slice e.A e.n e.c,.slice e.X e.nx e.cx]) [own iF B n d a] H H'):aB E H H':=aB.aAf (e:=e) rfl b c
section
variable (E:Env) (g:Nat) (B:n!) (n d:Nat) (r:Int) (ls:List cM)
theorem Ew.same{g:Nat}{B:n!}{n d:Nat}{r:Int}{ls:List cM}{e:cM}(b:ls[i]?=some e)(a:oU r ls):Ew g B n d r ls i e.s false (.returned (.bool false)) (jA g B n d r ls) :=
 ⟨ls,rfl,a,rfl,by rw[CL (x:=e.s) (by rw[mM,b];rfl)],rfl⟩
def aCw(k:bV)(now:Int)(b:n<=100000)(h:¬GS r n k.id):aF prog E 259 #[.pointer (some ⟨g,0,none⟩),.agg k.cs.toArray,a! now] [lg g B n d r] λe a=>e=.returned (.bool false)/\a=[lg g B n d r]:=by
 refine D_ func259 ntmps259 ?_;intros
 refine aP (λM=>NC M g B n d r k.id b h) ?_;refine h_ ?_
 exact aS
def aQw(i:Nat)(R:n<=100000)(hi:i<n)(y:oU r ls){e:cM}(b:ls[i]?=some e)(o:Int)(u:Bool)(now:Int)(J:bQ now) :
  aF prog E 259 #[.pointer (some ⟨g,0,none⟩),.agg #[a! r,a! ((i+1:Nat):Int),a! o,.bool u],a! now] (jA g B n d r ls)
   (Ew g B n d r ls i (if e.s.iI e.id ⟨e.id,o,u⟩ then e.s.dK e.id now else e.s) (e.s.iI e.id ⟨e.id,o,u⟩&&(rL e.id e.made e.l e.w now).isSome)):=by
 have a:=y i e b;have v:=a.id;have w:bQ e.made:=by have:=a.s.vR;have:=a.s.qC;unfold bQ;unfold cM.s at *;dsimp only at *;omega
 have U:e.n<=1000000:=by have X:=a.s.len;have Z:=a.s.qC;have h3:=a.n;unfold cM.s at X Z;dsimp only at X Z;omega
 have j:=Ew.same (g:=g) (B:=B) (n:=n) (d:=d) b y;have K:=bC.K6 (id:=e.id) a.s J;cases s:e.s.DH e.id with
 |none =>
  have m:e.s.iI e.id ⟨e.id,o,u⟩=false:=by unfold bC.iI;rw[s]
  rw[m];simp only[xP,tG,if_false];unfold jA;refine D_ func259 ntmps259 ?_;intros;refine aU (λM=>Fg M g B n d r ls i R hi b) ?_;rintro x p ⟨rfl,rfl⟩;refine h_ ?_;refine rB (l_ [0,1,2,3,4,5,6,7] (.two 8 (l_ [9,10,11] (g_ 12 (g_ 13 (n_ 14 .nil)))) 12 (g_ 8 (l_ [9,10,11] (g_ 13 (n_ 14 .nil)))))) ([own iF B n d ls]) (h_ ?_);refine Dr.two ?_ ?_
  ·refine lC rfl sD bB sK aH (λM h=>Bi M e.id e.made e.A e.n e.c e.l e.w e.X e.nx e.cx (Sub.aT (f:=fU) h aV b rfl) (Sub.aT (f:=iA) h aV b rfl) a.s.oJ w) ?_;unfold Bb;rw[show next e.id e.made e.l e.w=none from s];dsimp only[Option.getD,Option.isSome];rintro x p ⟨rfl,rfl⟩;refine h_ ?_;intros;exact dS (j)
  ·refine h_ ?_;intros;refine cg rfl sD bB sK aH (λM h=>Bi M e.id e.made e.A e.n e.c e.l e.w e.X e.nx e.cx (Sub.aT (f:=fU) h aV b rfl) (Sub.aT (f:=iA) h aV b rfl) a.s.oJ w) ?_;unfold Bb;rw[show next e.id e.made e.l e.w=none from s];dsimp only[Option.getD,Option.isSome];rintro x p ⟨rfl,rfl⟩;refine h_ ?_;exact dS (j)
 |some q =>
  by_cases P:q.key=⟨e.id,o,u⟩
  ·have m:e.s.iI e.id ⟨e.id,o,u⟩=true:=by unfold bC.iI;rw[s];exact d! P
   rw[m];simp only[uC,if_true];have hd:(!decide ((⟨⟨q.key.id.rep,q.key.id.seq⟩,q.key.ord,q.key.cJ⟩:bV)=⟨⟨r,((i+1:Nat):Int)⟩,o,u⟩))=false:=by
    rw[show(⟨⟨q.key.id.rep,q.key.id.seq⟩,q.key.ord,q.key.cJ⟩:bV)=q.key from rfl,P,v,d! rfl];rfl
   unfold jA;refine D_ func259 ntmps259 ?_;intros;refine aU (λM=>Fg M g B n d r ls i R hi b) ?_;rintro x p ⟨rfl,rfl⟩;refine h_ ?_;refine rB (l_ [0,1,2,3,4,5,6,7] (.two 8 (l_ [9,10,11] (g_ 12 (g_ 13 (n_ 14 .nil)))) 12 (g_ 8 (l_ [9,10,11] (g_ 13 (n_ 14 .nil)))))) ([own iF B n d ls]) (h_ ?_);refine Dr.two ?_ ?_;refine lC rfl sD bB sK aH (λM h=>Bi M e.id e.made e.A e.n e.c e.l e.w e.X e.nx e.cx (Sub.aT (f:=fU) h aV b rfl) (Sub.aT (f:=iA) h aV b rfl) a.s.oJ w) ?_;unfold Bb;rw[show next e.id e.made e.l e.w=some q from s];dsimp only[Option.getD,Option.isSome];rintro x p ⟨rfl,rfl⟩;refine h_ ?_;intros;rotate_left;refine h_ ?_;intros;refine cg rfl sD bB sK aH (λM h=>Bi M e.id e.made e.A e.n e.c e.l e.w e.X e.nx e.cx (Sub.aT (f:=fU) h aV b rfl) (Sub.aT (f:=iA) h aV b rfl) a.s.oJ w) ?_;unfold Bb;rw[show next e.id e.made e.l e.w=some q from s];dsimp only[Option.getD,Option.isSome];rintro x p ⟨rfl,rfl⟩;refine h_ ?_;all_goals
    apply C.conv;(· exact aB.FN (T:=iF) (A:=B) (n:=n) (c:=d) (l:=ls) (k:=i) (e:=e) (cs:=[a! e.id.rep,a! e.id.seq,a! e.made,.slice e.A e.n e.c,.slice e.X e.nx e.cx]) b rfl gR);refine C.fL 16 (l_ [0,1,2,3,4,5,6,7,8,9] (g_ 10 (l_ [11,12,14,15] (.two 13 (g_ 16 (g_ 17 .nil)) 16 (g_ 13 (g_ 17 .nil)))))) _ q_ q_ aB.refl (h_ ?_);refine cg rfl sD bB sK aH (λM h=>Qh M e.id e.made e.A e.n e.c e.l e.w e.X e.nx e.cx now (Sub.aT (f:=fU) h aV b rfl) (Sub.aT (f:=iA) h aV b rfl) U a.s.oJ w) ?_;unfold I0;rintro x p ⟨z,O,D,rfl,F,Q,rfl⟩;refine gd bU aC ?_;have⟨t,W⟩:∃t,(rL e.id e.made e.l e.w now).getD (e.made,e.l)=t:=⟨_,rfl⟩;have N:e.s.dK e.id now=⟨t.1,t.2,e.w⟩:=by unfold bC.dK cM.s;dsimp only;rw[W]
    rw[W] at F;rw[W];have H:(⟨e.id,t.1,z,O,D,t.2,e.X,e.nx,e.cx,e.w⟩:cM).ok r i:=⟨v,F,Q,a.nx,a.cx,by show(⟨t.1,t.2,e.w⟩:bC).ok;rw[<-N];exact K⟩;refine h_ ?_;refine Dr.two ?_ ?_;all_goals
     refine h_ ?_;refine nF (aB.swap (f:=fU) (l:=ls) (i:=i) (x:=e) (x':=⟨e.id,t.1,z,O,D,t.2,e.X,e.nx,e.cx,e.w⟩) b aH) ?_;refine nF (aB.DU ⟨e.id,t.1,z,O,D,t.2,e.X,e.nx,e.cx,e.w⟩ rfl gR) ?_;refine nF (aB.same (f:=iA) (i:=i) b (x':=⟨e.id,t.1,z,O,D,t.2,e.X,e.nx,e.cx,e.w⟩) rfl gR) ?_;exact aX rfl aJ aC (⟨ls.set i ⟨e.id,t.1,z,O,D,t.2,e.X,e.nx,e.cx,e.w⟩,rfl,y.set H,s_,by rw[map_set,N];rfl,rfl⟩)
  ·have m:e.s.iI e.id ⟨e.id,o,u⟩=false:=by unfold bC.iI;rw[s];exact e! P
   rw[m];simp only[xP,tG,if_false];have hd:(!decide ((⟨⟨q.key.id.rep,q.key.id.seq⟩,q.key.ord,q.key.cJ⟩:bV)=⟨⟨r,((i+1:Nat):Int)⟩,o,u⟩))=true:=by
    rw[show(⟨⟨q.key.id.rep,q.key.id.seq⟩,q.key.ord,q.key.cJ⟩:bV)=q.key from rfl,<-v,e! P];rfl
   unfold jA;refine D_ func259 ntmps259 ?_;intros;refine aU (λM=>Fg M g B n d r ls i R hi b) ?_;rintro x p ⟨rfl,rfl⟩;refine h_ ?_;refine rB (l_ [0,1,2,3,4,5,6,7] (.two 8 (l_ [9,10,11] (g_ 12 (g_ 13 (n_ 14 .nil)))) 12 (g_ 8 (l_ [9,10,11] (g_ 13 (n_ 14 .nil)))))) ([own iF B n d ls]) (h_ ?_);refine Dr.two ?_ ?_
   ·refine lC rfl sD bB sK aH (λM h=>Bi M e.id e.made e.A e.n e.c e.l e.w e.X e.nx e.cx (Sub.aT (f:=fU) h aV b rfl) (Sub.aT (f:=iA) h aV b rfl) a.s.oJ w) ?_;unfold Bb;rw[show next e.id e.made e.l e.w=some q from s];dsimp only[Option.getD,Option.isSome];rintro x p ⟨rfl,rfl⟩;refine h_ ?_;intros;exact dS (j)
   ·refine h_ ?_;intros;refine cg rfl sD bB sK aH (λM h=>Bi M e.id e.made e.A e.n e.c e.l e.w e.X e.nx e.cx (Sub.aT (f:=fU) h aV b rfl) (Sub.aT (f:=iA) h aV b rfl) a.s.oJ w) ?_;unfold Bb;rw[show next e.id e.made e.l e.w=some q from s];dsimp only[Option.getD,Option.isSome];rintro x p ⟨rfl,rfl⟩;refine h_ ?_;exact dS (j)
def F?(k:bV)(b:n<=100000)(h:¬GS r n k.id):aF prog E 260 #[.pointer (some ⟨g,0,none⟩),.agg k.cs.toArray] [lg g B n d r] λe a=>e=.returned (.bool false)/\a=[lg g B n d r]:=by
 refine D_ func260 ntmps260 ?_;intros
 refine aP (λM=>NC M g B n d r k.id b h) ?_;refine h_ ?_
 exact aS
def D?(i:Nat)(N:n<=100000)(hi:i<n)(z:oU r ls){e:cM}(b:ls[i]?=some e)(o:Int)(u:Bool) :
  aF prog E 260 #[.pointer (some ⟨g,0,none⟩),.agg #[a! r,a! ((i+1:Nat):Int),a! o,.bool u]] (jA g B n d r ls)
   (Ew g B n d r ls i (e.s.cR e.id ⟨e.id,o,u⟩) (dN e.id e.l ⟨e.id,o,u⟩).isSome):=by
 have a:=z i e b;have s:=a.id;have y:e.n<=1000000:=by have H:=a.s.len;have J:=a.s.qC;have O:=a.n;unfold cM.s at H J;dsimp only at H J;omega
 have p:=bC.I3 (id:=e.id) (k:=⟨e.id,o,u⟩) a.s;have t:(⟨⟨r,((i+1:Nat):Int)⟩,o,u⟩:bV)=⟨e.id,o,u⟩:=by rw[s]
 unfold jA;refine D_ func260 ntmps260 ?_;intros;rename_i K;refine aU (λM=>Fg M g B n d r ls i N hi b) ?_;rintro x F ⟨rfl,rfl⟩;refine h_ ?_;refine rB (l_ [0,1,2,3,4] (.two 5 (l_ [6,7,8] (g_ 9 (g_ 10 (n_ 11 .nil)))) 9 (g_ 5 (l_ [6,7,8] (g_ 10 (n_ 11 .nil)))))) ([own iF B n d ls,aE K 75 [a! r,a! ((i+1:Nat):Int),a! o,.bool u]]) (h_ ?_);refine Dr.two ?_ ?_;refine lC rfl sD bB sK aH (λM D=>(show aF _ _ _ #[.agg #[a! e.id.rep,a! e.id.seq,a! e.made,.slice e.A e.n e.c],.agg #[a! r,a! ((i+1:Nat):Int),a! o,.bool u]] _ _ from QI M e.id e.made e.A e.n e.c e.l ⟨⟨r,((i+1:Nat):Int)⟩,o,u⟩ (Sub.aT (f:=fU) D aV b rfl) y)) ?_;unfold Ia;rw[t];rintro x F ⟨h,m,j,rfl,v,q,rfl⟩;refine h_ ?_;intros;rotate_left;refine h_ ?_;intros;refine cg rfl sD bB sK aH (λM D=>(show aF _ _ _ #[.agg #[a! e.id.rep,a! e.id.seq,a! e.made,.slice e.A e.n e.c],.agg #[a! r,a! ((i+1:Nat):Int),a! o,.bool u]] _ _ from QI M e.id e.made e.A e.n e.c e.l ⟨⟨r,((i+1:Nat):Int)⟩,o,u⟩ (Sub.aT (f:=fU) D aV b rfl) y)) ?_;unfold Ia;rw[t];rintro x F ⟨h,m,j,rfl,v,q,rfl⟩;refine h_ ?_;all_goals
  apply L.conv;(· exact aB.FN (T:=iF) (A:=B) (n:=n) (c:=d) (l:=ls) (k:=i) (e:=e) (cs:=[a! e.id.rep,a! e.id.seq,a! e.made,.slice e.A e.n e.c,.slice e.X e.nx e.cx]) b rfl gR);refine h_ ?_;have w:(⟨e.id,e.made,h,m,j,(dN e.id e.l ⟨e.id,o,u⟩).getD e.l,e.X,e.nx,e.cx,e.w⟩:cM).ok r i:=⟨s,v,q,a.nx,a.cx,p⟩;refine nF (aB.swap (f:=fU) (l:=ls) (i:=i) (x:=e) (x':=⟨e.id,e.made,h,m,j,(dN e.id e.l ⟨e.id,o,u⟩).getD e.l,e.X,e.nx,e.cx,e.w⟩) b aH) ?_;refine nF (aB.DU ⟨e.id,e.made,h,m,j,(dN e.id e.l ⟨e.id,o,u⟩).getD e.l,e.X,e.nx,e.cx,e.w⟩ rfl gR) ?_;refine nF (aB.same (f:=iA) (i:=i) b (x':=⟨e.id,e.made,h,m,j,(dN e.id e.l ⟨e.id,o,u⟩).getD e.l,e.X,e.nx,e.cx,e.w⟩) rfl gR) ?_;exact aX rfl aJ aC (⟨ls.set i ⟨e.id,e.made,h,m,j,(dN e.id e.l ⟨e.id,o,u⟩).getD e.l,e.X,e.nx,e.cx,e.w⟩,rfl,z.set w,s_,by rw[map_set];rfl,rfl⟩)
end
abbrev s0:bC:=⟨0,[],[]⟩
abbrev ED(r:Int)(i:Nat):cM:=⟨⟨r,((i+1:Nat):Int)⟩,0,none,0,0,[],none,0,0,[]⟩
def aBm(r:Int)(i:Nat):(ED r i).ok r i:=⟨rfl,rfl,⟨bM _,bY _⟩,rfl,⟨bM _,bY _⟩,bC.TW⟩
def sQ(ps:List bC)(i:Nat)(w:List bE):List bC:=if i<ps.length then ps.set i ((ps.getD i s0).put w) else ps++[s0.put w]
def aHf{ps:List bC}{s:bC}{w:List bE}(h:ps[i]?=some s):sQ ps i w=ps.set i (s.put w):=by
 unfold sQ;rw[c! (cH.1 h).1,qS,h];rfl
def aDs{ps:List bC}{w:List bE}:sQ ps ps.length w=(ps++[s0]).set ps.length (s0.put w):=by
 unfold sQ;rw[b! o_,Ip _ _ (bM _),BZ];rfl
def PH(g:Nat)(r:Int)(ps:List bC):Ending->List aG->Prop:=λx f =>
 ∃e c b a,x=.returned (.bool true)/\oU r a/\c=a.length/\(c<=b/\b<=maxLen)/\a.map cM.s=ps/\f=jA g e c b r a
section
variable (E:Env) (g:Nat) (B:n!) (n d:Nat) (r:Int) (ls:List cM)
def aMm(s:Int)(v:p!)(f:n<=100000)(h:s<1\/(n:Int)+1<s):aF prog E 308 #[.pointer (some ⟨g,0,none⟩),a! s,v] [lg g B n d r] λe b=>e=.returned (.bool false)/\b=[lg g B n d r]:=by
 have a:=cS;have i:IntKind.i64.wrap ((n:Int)+1)=(n:Int)+1:=dY _ o_;refine t_ func308 ntmps308 ?_;by_cases c:s<1;all_goals
  refine h_ ?_;exact aS
def aFc(i:Nat)(hn:n<=100000)(hi:i<=n)(hnl:n=ls.length)(hnd:n<=d/\d<=maxLen)(hok:oU r ls)(X:n!)(nx cx:Nat)(w:List bE)(hw:Rd E eT X nx cx w)(hx:nx<=8)(hwo:∀f∈w,f.ok) :
  aF prog E 308 #[.pointer (some ⟨g,0,none⟩),a! ((i+1:Nat):Int),.slice X nx cx] (jA g B n d r ls) (PH g r (sQ (ls.map cM.s) i w)):=by
 have hmax:=cS;have hwl:=hw.len;have hw1:IntKind.i64.wrap ((n:Int)+1)=(n:Int)+1:=dY _ o_;have hw2:IntKind.i64.wrap (((i+1:Nat):Int) - 1)=(i:Int):=by rw[dY _ o_];omega
 have hnm:n<=maxLen:=o_;unfold PH jA;refine t_ func308 ntmps308 ?_;repeat ((fail_if_success (refine C.seq (x:=Code.region 3 _ _) ?_));first|refine Vh ?_|refine M8 ?_|intro _|refine Dr.two ?_ ?_)
 refine C.cW (X:=n!×Nat×Nat×List cM) (λ_=>[(0,.pointer (some ⟨g,0,none⟩)),(1,a! ((i+1:Nat):Int)),(2,.slice X nx cx)]) (λx=>[lg g x.1 x.2.1 x.2.2.1 r,own iF x.1 x.2.1 x.2.2.1 x.2.2.2,aT fU x.2.2.2,aT iA x.2.2.2])
  (λx=>oU r x.2.2.2/\x.2.1=x.2.2.2.length/\x.2.1<=200000/\i<x.2.1/\(x.2.1<=x.2.2.1/\x.2.2.1<=maxLen)/\∀e,x.2.2.2[i]?=some e->(x.2.2.2.map cM.s).set i (e.s.put w)=sQ (ls.map cM.s) i w) ?_ ?_
 ·by_cases hlt:i<n
  ·refine h_ ?_;exact⟨(B,n,d,ls),aK,aC,⟨hok,hnl,by dsimp only;omega,hlt,hnd,λe he=>(aHf (by rw[mM,he];rfl)).symm⟩⟩
  ·obtain rfl:i=n:=o_;refine h_ ?_;refine C.fL 14 (l_ [0,1,2,3,4,5,6] (g_ 7 (l_ [8,9] (g_ 10 (g_ 11 (l_ [12,13] (g_ 14 .nil))))))) ([lg g B i d r]) q_ q_ aC (h_ ?_);refine cP (λM=>lid M g B i d r _) ?_;refine h_ ?_;refine Dr.mK rfl (by rintro k ⟨⟩<;>decide) bB (S.pY (T:=iF) (e:=(ED r i)) rfl rfl rfl rfl sD) ?_;rintro _ _ ⟨_,rfl,rfl⟩;refine⟨aC,?_⟩;refine h_ ?_;intros;rename_i B' d' h1 h2;have hlen:(ls.map cM.s).length=i:=by rw[fB,<-hnl]
   have hlast:(ls++[ED r i])[i]?=some (ED r i):=by rw[hnl];simp
   refine⟨(B',i+1,d',ls++[ED r i]),aK,?_,⟨hok.push (by rw[<-hnl];exact aBm r i),by dsimp only;rw[bR,<-hnl];rfl,by dsimp only;omega,by dsimp only;omega,⟨h1,h2⟩,λe he=>?_⟩⟩
   ·dsimp only;refine aB.trans (aB.mR gI none) ?_;refine aB.trans (aB.push (f:=fU) (l:=ls) (x:=ED r i) aH) ?_;refine aB.trans (aB.mR eT none) ?_;refine aB.trans (aB.push (f:=iA) (l:=ls) (x:=ED r i) aH) ?_;exact aC
   ·dsimp only at he⊢;rw[hlast] at he;injection he with he;subst he;have:=aDs (ps:=ls.map cM.s) (w:=w);rw[hlen] at this;rw[this,gP];rfl
 rintro⟨B1,n1,d1,l1⟩ F ⟨hok1,hn1,hb1,hi1,hd1,hput⟩;dsimp only at hok1 hn1 hb1 hi1 hd1 hput⊢;obtain⟨e,he⟩:∃e,l1[i]?=some e:=⟨_,bS o_⟩;have hoe:=hok1 i e he;have hel:e.n<=1000000:=by have h1:=hoe.s.len;have h2:=hoe.s.qC;have h3:=hoe.n;unfold cM.s at h1 h2;dsimp only at h1 h2;omega
 have hx2:nx<=100000:=o_;have hpo:(e.s.put w).ok:=bC.Tt hoe.s hwo o_;repeat ((fail_if_success (refine C.seq (x:=Code.region 6 _ _) ?_));first|refine Vh ?_|refine M8 ?_|intro _|refine Dr.two ?_ ?_)
 apply C.conv;(· exact aB.FN (T:=iF) (A:=B1) (n:=n1) (c:=d1) (l:=l1) (k:=i) (e:=e) (cs:=[a! e.id.rep,a! e.id.seq,a! e.made,.slice e.A e.n e.c,.slice e.X e.nx e.cx]) he rfl gR);refine h_ ?_;refine cU (λM h1=>Uk M X nx cx w h1 hx2) ?_;rintro x H' ⟨X',cx',rfl,hcx',rfl⟩;refine h_ ?_;refine cl sD sK aH (λM hE=>Qg M e.id e.made e.A e.n e.c e.l w X nx cx (Sub.aT (f:=fU) hE aV he rfl) (hw.sub hE) hel) ?_;rintro x H' ⟨A',c',rfl,hc',rfl⟩;refine h_ ?_;have hnew:(⟨e.id,e.made,A',e.n,c',settle w e.l,X',nx,cx',w⟩:cM).ok r i:=⟨hoe.id,by show e.n=(settle w e.l).length;rw[vW];exact hoe.n,hc',hwl,hcx',hpo⟩;refine nF (aB.swap (f:=fU) (l:=l1) (i:=i) (x:=e) (x':=⟨e.id,e.made,A',e.n,c',settle w e.l,X',nx,cx',w⟩) he aH) ?_;refine nF (aB.swap (f:=iA) (l:=l1) (i:=i) (x:=e) (x':=⟨e.id,e.made,A',e.n,c',settle w e.l,X',nx,cx',w⟩) he aH) ?_;refine nF (aB.DU ⟨e.id,e.made,A',e.n,c',settle w e.l,X',nx,cx',w⟩ rfl gR) ?_;exact aX rfl aJ aC (⟨B1,n1,d1,l1.set i ⟨e.id,e.made,A',e.n,c',settle w e.l,X',nx,cx',w⟩,rfl,hok1.set hnew,by rw[iM];exact hn1,hd1,by rw[map_set];exact hput e he,rfl⟩)
def iW:Int->List aN->Bool
 |_,[]=>true
 |last,e::l=>e.may&&(decide (last<e.ord)&&iW e.ord l)
def yJ:Int->List aN->Int
 |last,[]=>last
 |_,e::l=>yJ e.ord l
def aQn(l:List aN)(a:Int)(e:aN):iW a (l++[e])=(iW a l&&(e.may&&decide (yJ a l<e.ord))):=by
 induction l generalizing a with
 |nil =>
  show(e.may&&(decide (a<e.ord)&&true))=(true&&(e.may&&decide (a<e.ord)));rw[Bool.and_true,uC]
 |cons x l b =>
  show(x.may&&(decide (a<x.ord)&&iW x.ord (l++[e])))=((x.may&&(decide (a<x.ord)&&iW x.ord l))&&(e.may&&decide (yJ x.ord l<e.ord)));rw[b,LL,LL]
def K?(l:List aN)(a:Int)(e:aN):yJ a (l++[e])=e.ord:=by
 induction l generalizing a with
 |nil=>rfl
 |cons x l b=>simp only[mX,yJ,b]
def aHt{c:Int}{x:aN}(_hx:l[i]?=some x)(h:iW c (l.take (i+1))=false):iW c l=false:=by
 have f:∀(a b:List aN) (q:Int),iW q a=false->iW q (a++b)=false:=by
  intro a
  induction a with
  |nil=>intro b q h;simp[iW] at h
  |cons y a k =>
   intro b q h;simp only[mX,iW] at h⊢;cases j:y.may
   ·rfl
   ·rw[j] at h;cases e:decide (q<y.ord)
    ·rfl
    ·rw[e] at h;simp only[uC] at h⊢;exact k b _ h
 rw[<-mE (i+1) l];exact f _ _ _ h
def BS(made:Int)(l:List aN):Bool:=iW 0 l&&decide (yJ 0 l<=made/\made<=255)
theorem Sn(id:aL)(made:Int)(A:n!)(n c:Nat)(l:List aN)(u:Rd E gI A n c l):aF prog E 379 #[uL id made A n c] [] λx k=>x=.returned (.bool (BS made l))/\k=[]:=by
 have s:=cS;have z:=u.len;have o:=u.cap;unfold BS;refine D_ func379 ntmps379 ?_;intros
 rename_i m;refine C.loop (X:=Nat) (λj=>[(1,.pointer (some ⟨m,0,none⟩)),(3,a! (yJ 0 (l.take j))),(7,.slice A n c),(8,a! n),(9,a! j)]) (λ_=>[aE m 90 [a! id.rep,a! id.seq,a! made,.slice A n c]]) (λj=>j<=n/\iW 0 (l.take j)=true) (λj=>n - j) 0 aK aC ⟨bY _,rfl⟩ ?_;rintro j G ⟨y,a⟩;by_cases w:j<n
 ·have v:l[j]?=some l[j]:=bS o_;have i:l.take (j+1)=l.take j++[l[j]]:=rS o_;generalize l[j]=e at v i;have h:=aQn (l.take j) 0 e;have b:=K? (l.take j) 0 e;rw[<-i,a,uC] at h;rw[<-i] at b;have f:iW 0 (l.take (j+1))=false->iW 0 l=false:=aHt v;revert h b f;generalize yJ 0 (l.take j)=q;intro h b f;refine h_ ?_;intros
  refine aU (λM=>MY M e) ?_;cases p:e.may
  ·rw[p] at h;rw[f h,xP];rintro x k ⟨rfl,rfl⟩;refine h_ ?_
   exact aS
  rw[p,uC] at h;rintro x k ⟨rfl,rfl⟩;refine gk bU ?_;by_cases t:q<e.ord
  ·refine h_ ?_
   exact⟨j+1,by rw[b];exact aK,aC,⟨o_,by rw[h];exact d! t⟩,o_⟩
  ·rw[f (by rw[h];exact e! t),xP];refine h_ ?_
   exact aS
 ·obtain rfl:j=n:=o_;rw[fX o_] at a⊢;rw[a,uC];refine h_ ?_
  refine aU (λM=>lS M made (yJ 0 l) 255) ?_;rintro x k ⟨rfl,rfl⟩;refine h_ ?_
  exact aS
def aFu(v:AX)(b:n<=100000)(h:¬GS r n v.id):aF prog E 366 #[.pointer (some ⟨g,0,none⟩),.agg v.cs.toArray] [lg g B n d r] λe a=>e=.returned (.bool false)/\a=[lg g B n d r]:=by
 refine D_ func366 ntmps366 ?_;intros
 refine aP (λM=>NC M g B n d r v.id b h) ?_;refine h_ ?_
 exact aS
def aMb(i:Nat)(h:n<=100000)(hi:i<n){e:cM}(f:ls[i]?=some e)(made:Int)(A:n!)(m c:Nat)(l:List aN)(j:Rd E gI A m c l)(a:BS made l=false) :
  aF prog E 366 #[.pointer (some ⟨g,0,none⟩),.agg #[a! r,a! ((i+1:Nat):Int),a! made,.slice A m c]] [lg g B n d r,own iF B n d ls] λe b=>e=.returned (.bool false)/\b=[lg g B n d r,own iF B n d ls]:=by
 refine D_ func366 ntmps366 ?_;intros
 refine aU (λM=>Fg M g B n d r ls i h hi f) ?_;rintro x b ⟨rfl,rfl⟩;refine h_ ?_
 refine cU (λM=>Sn M ⟨r,((i+1:Nat):Int)⟩ made A m c l) ?_;rw[a];rintro x b ⟨rfl,rfl⟩;refine h_ ?_
 exact aS
def aBh(i:Nat)(D:n<=100000)(hi:i<n)(p:oU r ls){e:cM}(b:ls[i]?=some e)(made:Int)(A:n!)(m c:Nat)(l:List aN)(w:Rd E gI A m c l)(z:m<=1000000)(t:BS made l=true)(s:(⟨made,settle e.w l,e.w⟩:bC).ok) :
  aF prog E 366 #[.pointer (some ⟨g,0,none⟩),.agg #[a! r,a! ((i+1:Nat):Int),a! made,.slice A m c]] (jA g B n d r ls)
   (Ew g B n d r ls i ⟨made,settle e.w l,e.w⟩ true):=by
 have a:=p i e b;unfold jA;refine D_ func366 ntmps366 ?_;intros;rename_i F;refine aU (λM=>Fg M g B n d r ls i D hi b) ?_;rintro x u ⟨rfl,rfl⟩;refine h_ ?_;refine cU (λM=>Sn M ⟨r,((i+1:Nat):Int)⟩ made A m c l) ?_;rw[t];rintro x u ⟨rfl,rfl⟩;refine h_ ?_;apply C.conv;(· exact aB.FN (T:=iF) (A:=B) (n:=n) (c:=d) (l:=ls) (k:=i) (e:=e) (cs:=[a! e.id.rep,a! e.id.seq,a! e.made,.slice e.A e.n e.c,.slice e.X e.nx e.cx]) b rfl gR);refine C.fL 9 (l_ [0,1,2,3,4,5] (g_ 6 (l_ [7,8] (g_ 9 .nil)))) _ q_ q_ aB.refl (h_ ?_);refine cg rfl sD bB sK aH (λM v=>Qg M ⟨r,((i+1:Nat):Int)⟩ made A m c l e.w e.X e.nx e.cx (w.sub v) (Sub.aT (f:=iA) v aV b rfl) z) ?_;rintro x u ⟨h,j,rfl,q,rfl⟩;refine h_ ?_;have y:=a.id;have o:(⟨⟨r,((i+1:Nat):Int)⟩,made,h,m,j,settle e.w l,e.X,e.nx,e.cx,e.w⟩:cM).ok r i:=⟨rfl,by show m=(settle e.w l).length;rw[vW];exact w.len,q,a.nx,a.cx,s⟩;refine nF (aB.swap (f:=fU) (l:=ls) (i:=i) (x:=e) (x':=⟨⟨r,((i+1:Nat):Int)⟩,made,h,m,j,settle e.w l,e.X,e.nx,e.cx,e.w⟩) b aH) ?_;refine nF (aB.DU ⟨⟨r,((i+1:Nat):Int)⟩,made,h,m,j,settle e.w l,e.X,e.nx,e.cx,e.w⟩ rfl gR) ?_;refine nF (aB.same (f:=iA) (i:=i) b (x':=⟨⟨r,((i+1:Nat):Int)⟩,made,h,m,j,settle e.w l,e.X,e.nx,e.cx,e.w⟩) rfl gR) ?_;exact aX rfl aJ aC (⟨ls.set i ⟨⟨r,((i+1:Nat):Int)⟩,made,h,m,j,settle e.w l,e.X,e.nx,e.cx,e.w⟩,rfl,p.set o,s_,by rw[map_set];rfl,rfl⟩)
end
end
end Go.Proofs.YtmilalkjbojciaaGreat.Sep
