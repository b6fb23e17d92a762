/- Lemmas. -/
import Derived.Test.YtlgpgjdggilkgaaGreatDoorEdbm
set_option linter.all false
namespace Go.Proofs.YtlgpgjdggilkgaaGreatDoor
section
open Go.V
theorem LJ(ls:List x4)(i r:Int)(rv:List (Int×Int)):WE ls i r rv<=2*Nu ls:=by
 have h:∀n:Nat,n<=ls.length->((List.range n).map (T4 ls i r rv)).sum<=2*Nu (ls.take n):=λn=>by
  induction n with
  | zero=>grind
  | succ n ih =>
   grind [df,aB,Nu,T4]
 have q:=h ls.length D;rw[cK] at q;exact q
def LC{g:Gh}{R:List Int}{r:Int}{ls:List x4}(QX:∀x∈R,∃l,g.Β x=some l)(A:g.Β r=none)(i:Int)(N:ω)(S:Τ):pn (g.G5 r ls) (r::R) i N S<=pn g R i N S+4*Nu ls:=by
 have e0:cV (g.G5 r ls) r=ls:=by
  unfold cV;rw[show(g.G5 r ls).Β r=some ls from Ω rfl];rfl
 have e1:∀x∈R,cV (g.G5 r ls) x=cV g x:=λx M=>by
  obtain⟨l,T⟩:=QX x M;unfold cV;rw[ry A T,T]
 have p1:nP (g.G5 r ls) (r::R) N<=2*Nu ls+nP g R N:=by
  unfold nP;rw[al,aR,e0];refine cH ?_ (Nat.le_of_eq (congrArg List.sum (aU λx M=>by rw[e1 x M])));split
  .exact ax _
  .exact aD _
 have p2:nR (g.G5 r ls) (r::R) i N.wk<=2*Nu ls+nR g R i N.wk:=by
  unfold nR;rw[al,aR,e0];exact cH (LJ _ _ _ _) (Nat.le_of_eq (congrArg List.sum (aU λx M=>by rw[e1 x M])))
 unfold pn;omega
def Oy.mono{F:Int}{b b' : Nat}{g:Gh}{R:List Int}{W:jA}(h:Oy F b g R W)(hb:b<=b'):Oy F b' g R W:=⟨h.cv,h.hR,h.QX,λi hi=>aO (h.pn i hi) hb⟩
def Oy.drop{F:Int}{b:Nat}{g:Gh}{R:List Int}{W W' : jA}(h:Oy F b g R W)(hn:W'.D8=W.D8)(hm:∀y∈W'.O,y∈W.O):Oy F b g R W' :=
 ⟨h.cv.drop hn hm,h.hR,h.QX,λi hi=>by
  have e:W'.nd i=W.nd i:=by unfold jA.nd;rw[hn]
  rw[e];exact h.pn i hi⟩
def WG(F:Int)(b:Nat)(W:jA):Prop:=∃g R,Oy F b g R W/\RS F g.Β W
def WG.i{F:Int}{b:Nat}{W:jA}(h:WG F b W):XJ F W:=by
 obtain⟨g,R,I,Q⟩:=h;exact⟨g,I.cv,Q⟩
theorem Se.q{n:Int}{l:List Int}{W:F6}(h:Se n l W):WG n 8 W.m:=by
 have T:=h.len;refine⟨⟨λ_=>none,λ_=>none⟩,[],⟨⟨⟨ah,ah⟩,λi hi=>?_,λy U=>?_,ah⟩,ah,ah,λi hi=>?_⟩,λr ls q=>ah⟩
 .have A:i.toNat<W.cO.length:=D;have e:W.m.nd i=W.cO[i.toNat]!.m:=eZ (f:=K2.m) A;have q:=(h.sd i.toNat A).WC;rw[show((i.toNat:Nat):Int)=i by omega] at q;rw[e];exact q
 .have U:y∈W.x5.map (·.m):=U;rw[h.O] at U;cases U
 .have A:i.toNat<W.cO.length:=D;have e:W.m.nd i=W.cO[i.toNat]!.m:=eZ (f:=K2.m) A;have hs:=h.sd i.toNat A;have hk:=hs.sp.k;rw[e];show ey W.cO[i.toNat]!.S+F0 W.cO[i.toNat]!.n.m+0+0<=8;rw[hs.n];show ey W.cO[i.toNat]!.S+0+0+0<=8;omega
def Sg(a x:Int)(m:B1):Int:=if a=m.Ν then(if x=m.a1 then m.n else 0) else 0
def pJ(a x:Int)(m:B1):Int:=if a=m.to then(if x=m.a1 then m.n else 0) else 0
def NU(a x:Int)(O:List B1):Int:=(O.map (Sg a x)).sum
def gE(a x:Int)(O:List B1):Int:=(O.map (pJ a x)).sum
theorem ES{d:Int}{fl:List E3}{hy:Int->Bool}{s:D7}{W:Wk}{k:Nat}{m:B1}(h:Q8 d fl k W)(hm:P6 m)(hp:m.Γ=[])(hf:m.Ν≠0)(hk:k<=2000)(hB:QT W.ξ W.iL (fl++W.Μ))(hb:m.n<=aW (W.ξ m.Ν m.a1)):(ce d fl hy s W m).1=0:=by
 have he:NL d (fl++W.Μ) s W m=0:=by
  unfold NL;rw[Ο hf,Ω hp,Ο D]
 have ht:¬dt W m>1099511627776:=by
  have:=hB.top m.a1
  have:=hm.n
  unfold dt;rw[Ο hf];split<;>omega
 unfold ce;rw[Ο D,Ο ht];split
 .rfl
 .have q:=(uJ (hy:=hy) h hm hk he m.to m.a1).len;grind
theorem pO{d:Int}{fl:List E3}{hy:Int->Bool}{s:D7}(J:0<=d):∀(O:List B1) (W:Wk) (k:Nat),Q8 d fl k W->(∀m∈O,P6 m)->k+C6 O<=2000->QT W.ξ W.iL (fl++W.Μ)->(cQ d fl hy s W O).1=0->(∀a x,a≠0->aW ((cQ d fl hy s W O).2.ξ a x)=aW (W.ξ a x) - NU a x O+gE a x O)/\QT (cQ d fl hy s W O).2.ξ (cQ d fl hy s W O).2.iL (fl++(cQ d fl hy s W O).2.Μ)
 | [],W,k,_,_,_,hB,_=>⟨λa x _=>by show aW (W.ξ a x)=aW (W.ξ a x) - 0+0;omega,hB⟩
 | m::O,W,k,h,hm,hk,hB,he=>by
  have e:cQ d fl hy s W (m::O)=if(ce d fl hy s W m).1=0 then cQ d fl hy s (ce d fl hy s W m).2 O else((ce d fl hy s W m).1,W):=rfl;have ek:C6 (m::O)=(m.Γ.length+1)+C6 O:=rfl;rw[e] at he ⊢;by_cases h0:(ce d fl hy s W m).1=0
  case neg =>
   grind
  rw[Ω h0] at he ⊢;have A:=hm m au;obtain⟨g1,g2⟩:=nu J h A D h0;obtain⟨_,b2,_,b4⟩:=wK h A D hB h0;obtain⟨c1,c2⟩:=pO J O _ _ g1 (λy U=>hm y (az _ U)) D b4 he;refine⟨λa x ha=>?_,c2⟩;rw[c1 a x ha,b2 a x ha];have e1:NU a x (m::O)=Sg a x m+NU a x O:=by unfold NU;rw[al,aR]
  have e2:gE a x (m::O)=pJ a x m+gE a x O:=by unfold gE;rw[al,aR]
  rw[e1,e2];unfold Sg pJ;split<;>split<;>(try split)<;>omega
theorem Kt{a x:Int}{m:B1}(h:P6 m):0<=Sg a x m:=by
 have:=h.n
 grind [Sg]
theorem IM{a x:Int}{m:B1}(h:P6 m):0<=pJ a x m:=by
 have:=h.n
 grind [pJ]
def Cx{a x:Int}:∀{O:List B1},(∀m∈O,P6 m)->0<=NU a x O
 | [],_=>bE _
 | m::O,h=>by
  have I:=Kt (a:=a) (x:=x) (h m au);have Q:=Cx (a:=a) (x:=x) λy U=>h y (az _ U);have e1:NU a x (m::O)=Sg a x m+NU a x O:=by unfold NU;rw[al,aR]
  omega
def sw{d:Int}{fl:List E3}{hy:Int->Bool}{s:D7}(J:0<=d):∀(O:List B1) (W:Wk) (k:Nat),Q8 d fl k W->(∀m∈O,P6 m/\m.Γ=[]/\m.Ν≠0)->k+C6 O<=2000->QT W.ξ W.iL (fl++W.Μ)->(∀a x,a≠0->NU a x O<=aW (W.ξ a x))->(cQ d fl hy s W O).1=0
 | [],W,k,_,_,_,_,_=>rfl
 | m::O,W,k,h,hm,hk,hB,hb=>by
  have e:cQ d fl hy s W (m::O)=if(ce d fl hy s W m).1=0 then cQ d fl hy s (ce d fl hy s W m).2 O else((ce d fl hy s W m).1,W):=rfl;have ek:C6 (m::O)=(m.Γ.length+1)+C6 O:=rfl;obtain⟨A,hp,hf⟩:=hm m au;have a2:=λy U=>(hm y (az _ U)).1;have e1:∀a x,NU a x (m::O)=Sg a x m+NU a x O:=λa x=>by unfold NU;rw[al,aR]
  have h0:(ce d fl hy s W m).1=0:=by
   refine ES h A hp hf D hB ?_;have q:=hb m.Ν m.a1 hf;rw[e1] at q;have:=Cx (a:=m.Ν) (x:=m.a1) a2
   have e2:Sg m.Ν m.a1 m=m.n:=by unfold Sg;rw[Ω rfl,Ω rfl]
   omega
  rw[e,Ω h0];obtain⟨g1,g2⟩:=nu J h A D h0;obtain⟨_,b2,_,b4⟩:=wK h A D hB h0;refine sw J O _ _ g1 (λy U=>hm y (az _ U)) D b4 λa x ha=>?_;have q:=hb a x ha;rw[e1] at q;have q2:=IM (a:=a) (x:=x) A;rw[b2 a x ha];unfold Sg at q;unfold pJ at q2;split<;>split<;>simp_all<;>(try split)<;>(try split at q)<;>(try split at q2)<;>omega
theorem PK.all{d:Int}{c:B4}(A:0<=d/\d<12){S:Τ}(h:PK d c S):ey S<=2000->St (ey S) S/\QT S.ξ S.iL S.Μ/\S.Ev.length<=ey S:=by
 induction h with
 | zero=>exact λ_=>⟨Gw A c,IF d c,ax _⟩
 | @post S s h I ih =>
  intro hk;have hp:=jf I;have ek:ey (bN S s)=ey S+C6 s.gN:=by rw[jp,Ω I]
  obtain⟨i1,i2,i3⟩:=ih D;have hA:=(CQ (s:=s) i1 D).1;have hm:1<=C6 s.gN:=aO hp.2.2.2.1.1 (vw s.gN);have eq:=oP I;have Q:=I;rw[eq] at Q;obtain⟨b1,b2⟩:=pO (by have:=i1.g.D9;omega) s.gN (Nk S) _ (tN i1.g) (px hp) (by show ey S+0+C6 s.gN<=2000;omega) (by show QT S.ξ S.iL (S.Μ++[]);grind) Q;grind [bN,fF]
theorem ly{d:Int}{c:B4}(A:0<=d/\d<12){S:Τ}(h:PK d c S){s:D7}(hk:ey S+C6 s.gN<=2000)(I:(E2 S s).1=0):∀a x,a≠0->aW ((bN S s).ξ a x)=aW (S.ξ a x) - NU a x s.gN+gE a x s.gN:=by
 obtain⟨i1,i2,i3⟩:=h.all A D;have eq:=oP I;have Q:=I;rw[eq] at Q;obtain⟨b1,b2⟩:=pO (by have:=i1.g.D9;omega) s.gN (Nk S) _ (tN i1.g) (px (jf I)) (by show ey S+0+C6 s.gN<=2000;omega) (by show QT S.ξ S.iL (S.Μ++[]);grind) Q;intro a x ha;rw[show bN S s=fF S s from Ω I];show aW ((E2 S s).2.ξ a x)=_;rw[eq];exact b1 a x ha
theorem FT{d:Int}{c:B4}(A:0<=d/\d<12){S:Τ}(h:PK d c S){s:D7}(hk:ey S+C6 s.gN<=2000)(hp:gD S.υ S.now s)(hm:∀m∈s.gN,m.Γ=[]/\m.Ν≠0)(hb:∀a x,a≠0->NU a x s.gN<=aW (S.ξ a x)):(E2 S s).1=0:=by
 obtain⟨i1,i2,i3⟩:=h.all A D;unfold E2;rw[Ο D,Ο ah];exact sw (by have:=i1.g.D9;omega) s.gN (Nk S) _ (tN i1.g) (by grind [px]) (by show ey S+0+C6 s.gN<=2000;omega) (by show QT S.ξ S.iL (S.Μ++[]);grind) hb
def lY{a x f t:Int}:∀am:List (Int×Int),NU a x (B5 f t am)=if a=f then((am.map λp=>if x=p.1 then p.2 else 0).sum) else 0
 | []=>by show(0:Int)=_;split<;>rfl
 | p::am=>by
  have ih:=lY (a:=a) (x:=x) (f:=f) (t:=t) am
  have e:NU a x (B5 f t (p::am))=(if a=f then(if x=p.1 then p.2 else 0) else 0)+NU a x (B5 f t am):=by
   unfold NU B5;rw[al,al,aR];rfl
  rw[e,ih,al,aR];split<;>omega
def mH{a x f t:Int}:∀am:List (Int×Int),gE a x (B5 f t am)=if a=t then((am.map λp=>if x=p.1 then p.2 else 0).sum) else 0
 | []=>by show(0:Int)=_;split<;>rfl
 | p::am=>by
  have ih:=mH (a:=a) (x:=x) (f:=f) (t:=t) am
  have e:gE a x (B5 f t (p::am))=(if a=t then(if x=p.1 then p.2 else 0) else 0)+gE a x (B5 f t am):=by
   unfold gE B5;rw[al,al,aR];rfl
  rw[e,ih,al,aR];split<;>omega
theorem Jj{d:Int}{fl:List E3}(h:TT fl){p:iK}(hp:a0 p)(A:¬(p.1 / 4294967296=d\/11<p.1 / 4294967296))(J:∀y∈dm fl,y.1≠p.1):TR d fl [p]=0:=by
 have e:=tc (d:=d) h [p] [] (λq hq=>by rw[GO hq];exact hp) (dC _ _) (λΞ hd=>iJ hd aH);rw[<-e,aJ,qO,Ο A,Ο (by grind [Tr])];rfl
theorem IO{d:Int}{fl:List E3}{hy:Int->Bool}{s:D7}{W:Wk}{k:Nat}{m:B1}(h:Ss d fl k W)(hm:Sb s.Ζ m)(h5:s.Ζ=5){r:Int}(hp:m.Γ=[(r,0,m.n)])(h0:0<=r)(A:¬(r / 4294967296=d\/11<r / 4294967296))(J:∀y∈dm (fl++W.Μ),y.1≠r)(ht:W.iL m.a1+m.n<=1099511627776)(hk:k<=2000):(ce d fl hy s W m).1=0:=by
 have hf:=hm.imp h5;have hn:=hm.g.n;have a4:=hm.g.ne;have a2:a0 (r,0,m.n):=⟨h0,bE _,by dsimp only;omega,hn.1,by dsimp only;omega⟩
 have he:NL d (fl++W.Μ) s W m=0:=by
  unfold NL;rw[Ω hf,Ω h5,hp];exact Jj h.fa a2 A J
 have a3:¬dt W m>1099511627776:=by
  unfold dt;rw[Ω hf];split<;>omega
 unfold ce;rw[Ο D,Ο a3];split
 .rfl
 .have q:=(h.g.ξ m.to m.a1).len;have e:Np hy W m m.to m.a1=W.ξ m.to m.a1:=by unfold Np;rw[Ω hf]
  grind
def uM{d:Int}{fl:List E3}{hy:Int->Bool}{s:D7}(a2:0<=d)(h5:s.Ζ=5){to:Int}:∀(am:List (Int×Int)) (h1:List Int) (W:Wk) (k:Nat),Ss d fl k W->(∀m∈G7 to am h1,Sb s.Ζ m)->k+C6 (G7 to am h1)<=2000->h1.Nodup->(∀r∈h1,0<=r/\¬(r / 4294967296=d\/11<r / 4294967296)/\∀y∈dm (fl++W.Μ),y.1≠r)->(∀x,W.iL x+(am.map (·.2)).sum<=1099511627776)->(∀p∈am,0<=p.2)->(cQ d fl hy s W (G7 to am h1)).1=0
 | [],_,_,_,_,_,_,_,_,_,_=>rfl
 | _::_,[],_,_,_,_,_,_,_,_,_=>rfl
 | a::am,r::h1,W,k,h,hm,hk,hn,hi,ht,hp=>by
  have e:cQ d fl hy s W (G7 to (a::am) (r::h1))=if(ce d fl hy s W (jG to (a,r))).1=0 then cQ d fl hy s (ce d fl hy s W (jG to (a,r))).2 (G7 to am h1) else((ce d fl hy s W (jG to (a,r))).1,W):=rfl;have ek:C6 (G7 to (a::am) (r::h1))=(1+1)+C6 (G7 to am h1):=rfl;have A:=hm (jG to (a,r)) au;obtain⟨i0,i1,i2⟩:=hi r au
  have a6:0<=(am.map (·.2)).sum:=by
   have:∀l:List (Int×Int),(∀p∈l,0<=p.2)->0<=(l.map (·.2)).sum:=λl=>by
    induction l with
    | nil=>intro _;exact bE _
    | cons b l ih =>
     intro hb;have I:=hb b au;have Q:=ih λp hp=>hb p (az _ hp);rw[al,aR];omega
   exact this am λp J=>hp p (az _ J)
  have a7:=ht a.1;rw[al,aR] at a7;have h0:(ce d fl hy s W (jG to (a,r))).1=0:=IO h A h5 (r:=r) rfl i0 i1 i2 (by show W.iL a.1+a.2<=_;omega) D;rw[e,Ω h0];obtain⟨a4,a5⟩:=List.nodup_cons.1 hn;have hA:=vD a2 h A (by show k+1<=2000;omega) h0;obtain⟨f1,f2⟩:=uN h0;refine uM a2 h5 am h1 _ _ hA (λm a3=>hm m (az _ a3)) (by show k+1+1+_<=2000;omega) a5 (λj hj=>?_) (λx=>?_) λp J=>hp p (az _ J)
  .obtain⟨j0,j1,j2⟩:=hi j (az _ hj);refine⟨j0,j1,λy U=>?_⟩;rw[f1,<-aF,mI] at U;rcases J4 U with U|U
   .exact j2 y U
   .obtain⟨g,hg,_,U⟩:=Vu.1 U;rw[GO hg] at U
    have ep:(gH d fl.length hy s W (jG to (a,r))).Γ=[(r,0,a.2)]:=by
     show Pw hy s W (jG to (a,r))=_;unfold Pw;rw[Ω (A.imp h5),Ω (.inl h5)];rfl
    rw[ep] at U;rw[GO U];exact λq=>a4 (by rw[show r=j from q];exact hj)
  .rw[f2];have q:=ht x;rw[al,aR] at q;have ea:=hp a au;unfold Pr;by_cases e2:x=a.1
   .rw[Ω (show x=(jG to (a,r)).a1 from e2)]
    have e3:dt W (jG to (a,r))=W.iL a.1+a.2:=by
     unfold dt;rw[Ω (A.imp h5),Ο (λq=>A.g.ne ((A.imp h5).trans q.symm))];show W.iL a.1+a.2 - 0=_;omega
    rw[e3];rw[e2] at q;omega
   .rw[Ο (show ¬x=(jG to (a,r)).a1 from e2)];omega
def Sh(am:List (Int×Int)):Prop:=(1<=am.length/\am.length<=64)/\∀p∈am,(0<=p.1/\p.1<4)/\1<=p.2/\p.2<=1099511627776
theorem LG{r n:Int}(h0:0<=r)(I:1<=n/\n<=1099511627776):kf [(r,0,n)] n:=by
 have A:∀x∈[((r,0,n):iK)],a0 x:=λx M=>by
  rw[GO M];exact⟨h0,bE _,by dsimp only;omega,I.1,by dsimp only;omega⟩
 have hs:aW [((r,0,n):iK)]=n:=by rw[gC,jP];show n+0=n;omega
 refine⟨⟨A,ah⟩,hs,?_⟩;rw[(sK A).2 (dC _ _)];exact hs
theorem Im{c:B4}(hc:c.B7.length=4){now Ζ B f t:Int}{am:List (Int×Int)}(hk:Ζ=2\/Ζ=6)(ht:now<=B/\B<=1099511627776)(ha:Sh am)(hf:0<f/\f<=1073741824)(Q:Ζ=2->0<t/\t<=1073741824/\f≠t)(h6:Ζ=6->t=0):gD c now (H9 Ζ B (B5 f t am)):=by
 have T:(B5 f t am).length=am.length:=ak _;refine⟨by show 0<=Ζ/\Ζ<=10;omega,⟨by show(0:Int)<=0;decide,by show(0:Int)<=1073741824;decide⟩,ht,by show 1<=(B5 f t am).length/\(B5 f t am).length<=64;rw[T];exact ha.1,λm hm=>?_,?_⟩
 .obtain⟨p,hp,rfl⟩:=H8 hm;obtain⟨q1,q2⟩:=ha.2 p hp;refine⟨⟨⟨q1.1,ah⟩,q2,?_,?_⟩,?_⟩
  .grind
  .grind
  .rw[Ο (by show ¬gW Ζ=true;rw[ph D];decide)];rfl
 .unfold mX;rw[Ο (by show ¬Ζ=4;omega),Ο (by show ¬Ζ=10;omega)];refine⟨λm hm=>?_,rfl,rfl⟩;obtain⟨p,hp,rfl⟩:=H8 hm;show iz Ζ _;grind [iz]
def Io{c:B4}(hc:c.B7.length=4){now B to:Int}{am:List (Int×Int)}{h1:List Int}(ht:now<=B/\B<=1099511627776)(ha:Sh am)(T:h1.length=am.length)(hi:∀r∈h1,0<=r)(J:0<to/\to<=1073741824):gD c now (H9 5 B (G7 to am h1)):=by
 have A:=nr (to:=to) T;refine⟨by show(0:Int)<=5/\(5:Int)<=10;decide,⟨by show(0:Int)<=0;decide,by show(0:Int)<=1073741824;decide⟩,ht,by show 1<=(G7 to am h1).length/\(G7 to am h1).length<=64;rw[A];exact ha.1,λm hm=>?_,?_⟩
 .obtain⟨p,hp,rfl⟩:=H8 hm;obtain⟨q1,q2⟩:=ha.2 p.1 (fR hp).1;have h0:=hi p.2 (fR hp).2;refine⟨⟨⟨q1.1,by rw[hc];exact q1.2⟩,q2,?_,?_⟩,?_⟩
  .show(0:Int)≠to;omega
  .show 0<=(0:Int)/\0<=to/\(0:Int)<=1073741824/\to<=1073741824;omega
  .rw[Ω (show gW (H9 5 B (G7 to am h1)).Ζ=true from bO (.inl rfl))];exact LG h0 q2
 .unfold mX;rw[Ο (by show ¬(5:Int)=4;decide),Ο (by show ¬(5:Int)=10;decide)];refine⟨λm hm=>?_,rfl,rfl⟩;obtain⟨p,hp,rfl⟩:=H8 hm;show iz 5 _;unfold iz;rw[Ω (.inr rfl)];rfl
theorem IP{d:Int}{c:B4}(a2:0<=d/\d<12){S:Τ}(h:PK d c S)(hc:S.υ.B7.length=4)(a5:S.D9=d){B to:Int}{am:List (Int×Int)}{h1:List Int}(hk:ey S+2*am.length<=2000)(ht:S.now<=B/\B<=1099511627776)(ha:Sh am)(T:h1.length=am.length)(hn:h1.Nodup)(hi:∀r∈h1,0<=r/\¬(r / 4294967296=d\/11<r / 4294967296)/\∀y∈dm S.Μ,y.1≠r)(a4:∀x,S.iL x+(am.map (·.2)).sum<=1099511627776)(a3:0<to/\to<=1073741824):E6 S 5 B (G7 to am h1)=true:=by
 obtain⟨i1,i2,i3⟩:=h.all a2 D;have hp:=Io hc (now:=S.now) (B:=B) ht ha T ah a3;have A:=kA (to:=to) T;unfold E6;refine bO ?_;unfold E2;rw[Ο D,Ο ah];refine uM (by have:=i1.g.D9;omega) rfl am h1 (Nk S) (ey S) (xo i1) (mE hp) (by rw[A];exact hk) hn (λr q=>?_) (λx=>a4 x) λp J=>by have:=(ha.2 p J).2;omega
 grind [Nk]
theorem za{d:Int}{c:B4}(A:0<=d/\d<12){S:Τ}(h:PK d c S)(hc:S.υ.B7.length=4){Ζ B f t:Int}{am:List (Int×Int)}(hk:ey S+am.length<=2000)(J:Ζ=2\/Ζ=6)(ht:S.now<=B/\B<=1099511627776)(ha:Sh am)(hf:0<f/\f<=1073741824)(Q:Ζ=2->0<t/\t<=1073741824/\f≠t)(h6:Ζ=6->t=0)(hb:∀x,(am.map λp=>if x=p.1 then p.2 else 0).sum<=aW (S.ξ f x)):E6 S Ζ B (B5 f t am)=true:=by
 obtain⟨i1,i2,i3⟩:=h.all A D;refine bO (FT A h (by show ey S+C6 (B5 f t am)<=2000;rw[gX];exact hk) (Im hc J ht ha hf Q h6) (λm hm=>?_) λa x a2=>?_)
 .obtain⟨p,hp,rfl⟩:=H8 hm;grind
 .show NU a x (B5 f t am)<=_;rw[lY];by_cases e:a=f
  .grind
  .rw[Ο e];exact vy λy U=>(i1.g.ξ a x).D3 y U
def Oz(x:Int)(am:List (Int×Int)):Int:=(am.map λp=>if x=p.1 then p.2 else 0).sum
def ia(x:Int)(o:hD):Int:=if o.state=0 then Oz x o.Χ.am else 0
def gx(x:Int)(os:List hD):Int:=(os.map (ia x)).sum
structure Qb (l:x4):Prop where
 am:Sh l.am
 fr:0<l.fr/\l.fr<268435456
 to:0<l.to/\l.to<268435456
theorem rR{d:Int}{c:B4}(J:0<=d/\d<12){S:Τ}(h:PK d c S){Ζ B f t:Int}{am:List (Int×Int)}(hk:ey S+am.length<=2000)(A:E6 S Ζ B (B5 f t am)=true):∀a x,a≠0->aW ((L3 S Ζ B (B5 f t am)).ξ a x)=aW (S.ξ a x) - (if a=f then Oz x am else 0)+(if a=t then Oz x am else 0):=λa x ha=>by
 have h0:(E2 S (H9 Ζ B (B5 f t am))).1=0:=by
  by_cases q:(E2 S (H9 Ζ B (B5 f t am))).1=0
  .exact q
  .unfold E6 at A;rw[bz q] at A;cases A
 have q:=ly J h (s:=H9 Ζ B (B5 f t am)) (by show ey S+C6 (B5 f t am)<=2000;rw[gX];exact hk) h0 a x ha;rw[show(H9 Ζ B (B5 f t am)).gN=B5 f t am from rfl,lY,mH] at q;exact q
theorem JN{d:Int}{c:B4}(A:0<=d/\d<12){S:Τ}(h:PK d c S)(hc:S.υ.B7.length=4){r cN Κ B:Int}{o:hD}(h0:o.state=0)(hk:ey S+o.Χ.am.length<=2000)(ht:S.now<=B/\B<=1099511627776)(T:Qb o.Χ)(hh:268435456<=Κ/\Κ<=1073741824)(hb:∀x,ia x o<=aW (S.ξ Κ x)) :
  (bY d r cN Κ B o S).2.1.state≠0/\∀a x,268435456<=a->aW ((bY d r cN Κ B o S).2.2.ξ a x)=aW (S.ξ a x) - (if a=Κ then ia x o else 0):=by
 have M:∀x,ia x o=Oz x o.Χ.am:=λx=>Ω h0;have a4:=T.fr;have a5:=T.to;unfold bY;rw[Ο D];by_cases I:cN=1/\o.Χ.ts≠d
 .rw[Ω I];have a2:E6 S 6 B (B5 Κ 0 o.Χ.am)=true:=za A h hc hk (.inr rfl) ht T.am D (λq=>iJ q ac) (λ_=>rfl) λx=>by have:=hb x;rw[M] at this;exact this
  grind [rR]
 rw[Ο I];obtain⟨t,J⟩:∃t,(if cN=2 then o.Χ.fr else o.Χ.to)=t:=⟨_,rfl⟩
 have a3:0<t/\t<268435456:=by
  rw[<-J];split<;>omega
 rw[J];have a2:E6 S 2 B (B5 Κ t o.Χ.am)=true:=za A h hc hk (.inl rfl) ht T.am D (λ_=>⟨a3.1,D,D⟩) (λq=>iJ q ac) λx=>by have:=hb x;rw[M] at this;exact this
 grind [rR]
theorem kL{S:Τ}{Ζ B:Int}{O:List B1}(h:E6 S Ζ B O=true):(E2 S (H9 Ζ B O)).1=0:=by
 grind [E6,bz]
def KY{S:Τ}{Ζ B:Int}{O:List B1}(h:E6 S Ζ B O=true):(L3 S Ζ B O).now=B:=by
 have h0:=kL h;show(bN S (H9 Ζ B O)).now=B;rw[show bN S (H9 Ζ B O)=fF S (H9 Ζ B O) from Ω h0];unfold Τ.now fF;dsimp only;rw[List.getLast?_append];rfl
structure Qt (d:Int) (c:B4) (B:Int) (S:Τ):Prop where
 rep:PK d c S
 υ:S.υ.B7.length=4
 now:S.now<=B
def Qt.S5{d:Int}{c:B4}{B:Int}{S:Τ}(h:Qt d c B S){Ζ:Int}{O:List B1}(A:E6 S Ζ B O=true):Qt d c B (L3 S Ζ B O) :=
 ⟨.post h.rep (kL A),by show(bN S (H9 Ζ B O)).υ.B7.length=4;rw[wI];exact h.υ,by rw[KY A];omega⟩
theorem xE{d:Int}{c:B4}{r cN Κ B:Int}{o:hD}{S:Τ}(h:Qt d c B S):Qt d c B (bY d r cN Κ B o S).2.2:=by
 unfold bY;by_cases h0:o.state≠0
 .grind
 rw[Ο h0];by_cases I:cN=1/\o.Χ.ts≠d
 .rw[Ω I];by_cases Q:E6 S 6 B (B5 Κ 0 o.Χ.am)=true
  .rw[Ω Q];exact h.S5 Q
  grind
 rw[Ο I];generalize (if cN=2 then o.Χ.fr else o.Χ.to)=t;by_cases Q:E6 S 2 B (B5 Κ t o.Χ.am)=true
 .rw[Ω Q];exact h.S5 Q
 grind
theorem Mg{x:Int}{am:List (Int×Int)}(h:Sh am):0<=Oz x am:=by
 have q:∀l:List (Int×Int),(∀p∈l,1<=p.2)->0<=(l.map λp=>if x=p.1 then p.2 else 0).sum:=λl=>by
  induction l with
  | nil=>grind
  | cons a l ih =>
   grind
 exact q am λp hp=>(h.2 p hp).2.1
def IR{x:Int}{o:hD}(h:Qb o.Χ):0<=ia x o:=by
 unfold ia;split
 .exact Mg h.am
 omega
theorem iU(x:Int)(o:hD)(os:List hD):gx x (o::os)=ia x o+gx x os:=by
 grind [gx]
def zA{x:Int}:∀{os:List hD},(∀o∈os,Qb o.Χ)->0<=gx x os
 | [],_=>bE _
 | o::os,h=>by
  have I:=IR (x:=x) (h o au);have Q:=zA (x:=x) λy U=>h y (az _ U);rw[iU];omega
def Cd{d:Int}{c:B4}(J:0<=d/\d<12){r cN Κ B:Int}(hh:268435456<=Κ/\Κ<=1073741824)(ht:B<=1099511627776):∀(os:List hD) (S:Τ),Qt d c B S->(∀o∈os,Qb o.Χ)->ey S+cl os<=2000->(∀x,gx x os<=aW (S.ξ Κ x)) ->
  Qt d c B (B0 (bY d r cN Κ B) os S).2.2/\(∀o∈(B0 (bY d r cN Κ B) os S).2.1,o.state≠0)/\∀a x,268435456<=a->aW ((B0 (bY d r cN Κ B) os S).2.2.ξ a x)=aW (S.ξ a x) - (if a=Κ then gx x os else 0)
 | [],S,h,_,_,_=>⟨h,λo ho=>(by cases ho),λa x _=>by
  show aW (S.ξ a x)=aW (S.ξ a x) - (if a=Κ then 0 else 0);split<;>omega⟩
 | o::os,S,h,T,hk,hb=>by
  have a2:=T o au;have A:=λy U=>T y (az _ U);have ek:cl (o::os)=dU o+cl os:=by unfold cl;rw[al,aR]
  have I:(bY d r cN Κ B o S).2.1.state≠0/\∀a x,268435456<=a->aW ((bY d r cN Κ B o S).2.2.ξ a x)=aW (S.ξ a x) - (if a=Κ then ia x o else 0):=by
   by_cases h0:o.state=0
   .have eo:dU o=o.Χ.am.length:=Ω h0;refine JN J h.rep h.υ h0 D ⟨h.now,ht⟩ a2 hh λx=>?_;have q:=hb x;rw[iU] at q;have:=zA (x:=x) A
    omega
   .have e:bY d r cN Κ B o S=([],o,S):=Ω h0;rw[e];refine⟨h0,λa x _=>?_⟩;have ex:ia x o=0:=Ο h0;rw[ex];show aW (S.ξ a x)=aW (S.ξ a x) - (if a=Κ then 0 else 0);split<;>omega
  have hp:=mW (d:=d) (r:=r) (cN:=cN) (Κ:=Κ) (B:=B) (o:=o) (S:=S)
  obtain⟨q1,q2,q3⟩:=Cd J hh ht os (bY d r cN Κ B o S).2.2 (xE h) A D λx=>by
   rw[I.2 Κ x hh.1,Ω rfl];have q:=hb x;rw[iU] at q;omega
  refine⟨q1,λy U=>?_,λa x ha=>?_⟩
  .rcases L7 U with rfl|U
   .exact I.1
   .exact q2 y U
  .show aW ((B0 (bY d r cN Κ B) os (bY d r cN Κ B o S).2.2).2.2.ξ a x)=_;rw[q3 a x ha,I.2 a x ha,iU];split<;>omega
structure NH (d:Int) (c:B4) (B:Int) (N:ω) (S:Τ):Prop where
 ld:Qt d c B S
 T:0<=N.T/\N.T<=2000
 pt:∀r p,ε N.Γ r=some p->p.Α≠[]->(268435456<=p.Κ/\p.Κ<268435456+N.T)/\(∀o∈p.Α,Qb o.Χ)/\∀x,aW (S.ξ p.Κ x)=gx x p.Α
 ap:∀r id' p p',r≠id'->ε N.Γ r=some p->ε N.Γ id' = some p'->p.Α≠[]->p'.Α≠[]->p.Κ≠p'.Κ
 new:∀a x,268435456+N.T<=a->aW (S.ξ a x)=0
 fin:∀r p,ε N.Γ r=some p->p.state=1\/p.state=2->∀o∈p.Α,o.state≠0
theorem yU(a x:Int)(l Δ:List B1):NU a x (l++Δ)=NU a x l+NU a x Δ:=by
 grind [NU]
theorem wB(a x:Int)(l Δ:List B1):gE a x (l++Δ)=gE a x l+gE a x Δ:=by
 grind [gE]
theorem uI{a x Κ:Int}(ha:268435456<=a):∀{os:List hD},(∀o∈os,Qb o.Χ/\o.state=0)->NU a x (dx Κ os)=0/\gE a x (dx Κ os)=if a=Κ then gx x os else 0
 | [],_=>⟨rfl,by show(0:Int)=if a=Κ then 0 else 0;omega⟩
 | o::os,h=>by
  obtain⟨I,Q⟩:=h o ah;obtain⟨i1,i2⟩:=uI (a:=a) (x:=x) (Κ:=Κ) ha λy U=>h y (az _ U);have e:dx Κ (o::os)=B5 o.Χ.fr Κ o.Χ.am++dx Κ os:=by unfold dx;rw[aS]
  have A:=I.fr;have M:ia x o=Oz x o.Χ.am:=Ω Q;rw[e,yU,wB,i1,i2,lY,mH,Ο (D:¬a=o.Χ.fr),iU,M];refine⟨D,?_⟩;unfold Oz;split<;>omega
theorem LW{d:Int}{c:B4}{B:Int}(J:0<=d/\d<12){S:Τ}(h:Qt d c B S){Κ:Int}{os:List hD}(a2:∀o∈os,Qb o.Χ/\o.state=0)(hk:ey S+cl os<=2000)(A:E6 S 2 B (dx Κ os)=true):Qt d c B (L3 S 2 B (dx Κ os))/\∀a x,268435456<=a->aW ((L3 S 2 B (dx Κ os)).ξ a x)=aW (S.ξ a x)+if a=Κ then gx x os else 0:=by
 refine⟨h.S5 A,λa x ha=>?_⟩;have q:=ly J h.rep (s:=H9 2 B (dx Κ os)) (by show ey S+C6 (dx Κ os)<=2000;grind [kJ]) (kL A) a x D;grind [uI,H9]
theorem Kl{d:Int}{c:B4}{B:Int}(a7:0<=d/\d<12){N:ω}{S:Τ}(h:NH d c B N S){m:G4}(hm:∀l∈m.Α,Qb l)(hk:ey S+cl (B6 d 0 m.Α)<=2000)(a9:N.T+1<=2000):NH d c B (eM d m B N S).2.1 (eM d m B N S).2.2:=by
 unfold eM;cases hp:ε N.Γ m.r with
 | some p=>exact h
 | none =>
  have a6:∀o∈B6 d 0 m.Α,Qb o.Χ/\o.state=0:=λo ho=>by
   obtain⟨⟨_,q⟩,_,q3⟩:=iX ho;grind
  have h0:=h.T;dsimp only;by_cases I:E6 S 2 B (dx (268435456+N.T) (B6 d 0 m.Α))=true
  .rw[Ω I];obtain⟨q1,q2⟩:=LW a7 h.ld a6 hk I;have A:∀r p,ε (ez N.Γ m.r ⟨0,268435456+N.T,B6 d 0 m.Α⟩) r=some p->(r=m.r/\p=⟨0,268435456+N.T,B6 d 0 m.Α⟩)\/(r≠m.r/\ε N.Γ r=some p):=by grind [cF]
   refine⟨q1,ah,λr p q J=>?_,λr a2 p p' J q q' a3 a4=>?_,λa x ha=>?_,λr p q a5=>?_⟩
   .rcases A r p q with⟨_,rfl⟩|⟨_,q⟩
    .refine⟨ah,λo ho=>(a6 o ho).1,λx=>?_⟩;show aW ((L3 S 2 B (dx (268435456+N.T) (B6 d 0 m.Α))).ξ (268435456+N.T) x)=_;rw[q2 _ x D,Ω rfl,h.new _ x D];grind
    .obtain⟨r1,r2,r3⟩:=h.pt r p q J;grind
   .rcases A r p q with⟨e,rfl⟩|⟨e,q⟩
    .rcases A a2 p' q' with⟨e',rfl⟩|⟨e',q'⟩
     .omega
     .have:=(h.pt a2 p' q' a4).1
      grind
    .rcases A a2 p' q' with⟨e',rfl⟩|⟨e',q'⟩
     .have:=(h.pt r p q a3).1
      grind
     .exact h.ap r a2 p p' J q q' a3 a4
   .have ha:268435456+(N.T+1)<=a:=ha;show aW ((L3 S 2 B (dx (268435456+N.T) (B6 d 0 m.Α))).ξ a x)=0;rw[q2 a x D,Ο D,h.new a x D];rfl
   .rcases A r p q with⟨_,rfl⟩|⟨_,q⟩
    .grind
    .exact h.fin r p q a5
  .rw[Ο I];have A:∀r p,ε (ez N.Γ m.r ⟨3,268435456+N.T,[]⟩) r=some p->p=⟨3,268435456+N.T,[]⟩\/ε N.Γ r=some p:=by grind [cF]
   refine⟨h.ld,h.T,λr p q J=>?_,λr a2 p p' J q q' a3 a4=>?_,h.new,λr p q a5=>?_⟩
   .rcases A r p q with rfl|q
    .grind
    .exact h.pt r p q J
   .rcases A r p q with rfl|q
    .grind
    .rcases A a2 p' q' with rfl|q'
     .grind
     .exact h.ap r a2 p p' J q q' a3 a4
   .rcases A r p q with rfl|q
    .grind
    .exact h.fin r p q a5
theorem NH.K5{d:Int}{c:B4}{B:Int}{N:ω}{S S' : Τ}(h:NH d c B N S){r:Int}{p q:Nl}(hp:ε N.Γ r=some p)(hq:q.Κ=p.Κ)(a3:q.Α≠[]->p.Α≠[])(b0:∀o∈q.Α,Qb o.Χ)(hS:Qt d c B S')(hb:p.Α≠[]->∀a x,268435456<=a->aW (S'.ξ a x)=aW (S.ξ a x) - (if a=p.Κ then gx x p.Α - gx x q.Α else 0))(a4:p.Α=[]->S' = S)(hf:q.state=1\/q.state=2->∀o∈q.Α,o.state≠0):NH d c B { N with Γ:=ez N.Γ r q } S':=by
 have A:∀j y,ε (ez N.Γ r q) j=some y->(j=r/\y=q)\/(j≠r/\ε N.Γ j=some y):=by grind [cF]
 have a6:∀j y,j≠r->ε N.Γ j=some y->y.Α≠[]->∀x,aW (S'.ξ y.Κ x)=aW (S.ξ y.Κ x):=λj y hj U J x=>by
  by_cases e:p.Α=[]
  .rw[a4 e]
  .rw[hb e y.Κ x (h.pt j y U J).1.1,Ο (h.ap j r y p hj U hp J e)];omega
 refine⟨hS,h.T,λj y e J=>?_,λj j' y y' a7 e e' J a2=>?_,λa x ha=>?_,λj y e a5=>?_⟩
 .rcases A j y e with⟨_,rfl⟩|⟨Δ,e⟩
  .have a9:=a3 J;obtain⟨p1,p2,p3⟩:=h.pt r p hp a9;grind
  .obtain⟨p1,p2,p3⟩:=h.pt j y e J;grind
 .rcases A j y e with⟨Δ,rfl⟩|⟨Δ,e1⟩
  .rcases A j' y' e' with⟨r',rfl⟩|⟨r',e'⟩
   .omega
   .rw[hq];exact h.ap r j' p y' D hp e' (a3 J) a2
  .rcases A j' y' e' with⟨r',rfl⟩|⟨r',e2⟩
   .rw[hq];exact h.ap j r y p D e1 hp J (a3 a2)
   .exact h.ap j j' y y' a7 e1 e2 J a2
 .have hh:=h.T;have ha:268435456+N.T<=a:=ha;by_cases e:p.Α=[]
  .rw[a4 e];exact h.new a x ha
  .have:=(h.pt r p hp e).1
   rw[hb e a x D,Ο D,h.new a x ha];rfl
 .rcases A j y e with⟨_,rfl⟩|⟨_,e⟩
  .exact hf a5
  .exact h.fin j y e a5
def ye{f:hD->Τ->List fK×hD×Τ}(hf:∀o S,(f o S).2.1.Χ=o.Χ):∀(os:List hD) (S:Τ),(B0 f os S).2.1.map (·.Χ)=os.map (·.Χ)
 | [],_=>rfl
 | o::os,S=>by
  show List.map _ ((f o S).2.1::(B0 f os (f o S).2.2).2.1)=_;rw[al,al,hf,ye hf os]
theorem pK{x:Int}:∀{os:List hD},(∀o∈os,o.state≠0)->gx x os=0
 | [],_=>rfl
 | o::os,h=>by
  rw[iU,pK λy U=>h y (az _ U),show ia x o=0 from Ο (h o au)];rfl
theorem NH.work{d:Int}{c:B4}{B:Int}(A:0<=d/\d<12)(ht:B<=1099511627776){N:ω}{S:Τ}(h:NH d c B N S){r st:Int}{p:Nl}(hp:ε N.Γ r=some p)(hk:ey S+cl p.Α<=2000):NH d c B { N with Γ:=ez N.Γ r ⟨st,p.Κ,(B0 (bY d r st p.Κ B) p.Α S).2.1⟩ } (B0 (bY d r st p.Κ B) p.Α S).2.2:=by
 by_cases T:p.Α=[]
 .have e:B0 (bY d r st p.Κ B) p.Α S=([],[],S):=by rw[T];rfl
  rw[e];exact h.K5 hp rfl ah ah h.ld ah (λ_=>rfl) ah
 .obtain⟨p1,p2,p3⟩:=h.pt r p hp T;have hh:=h.T;obtain⟨q1,q2,q3⟩:=Cd A (r:=r) (cN:=st) (Κ:=p.Κ) D ht p.Α S h.ld p2 hk ah;have e:=ye (f:=bY d r st p.Κ B) (λo S=>Wq.1) p.Α S;refine h.K5 hp rfl (λ_=>T) (λo ho=>?_) q1 (λ_ a x ha=>?_) ah λ_=>q2
  .have m:o.Χ∈p.Α.map (·.Χ):=by rw[<-e];exact ah
   grind
  grind [pK]
theorem wC{a x to:Int}(ha:a≠0)(ht:a≠to):∀(am:List (Int×Int)) (h1:List Int),NU a x (G7 to am h1)=0/\gE a x (G7 to am h1)=0
 | [],_=>⟨rfl,rfl⟩
 | _::_,[]=>⟨rfl,rfl⟩
 | p::am,i::h1=>by
  obtain⟨I,Q⟩:=wC (x:=x) ha ht am h1
  have e1:NU a x (G7 to (p::am) (i::h1))=(if a=0 then(if x=p.1 then p.2 else 0) else 0)+NU a x (G7 to am h1):=by
   unfold NU G7;rw[List.zip_cons_cons,al,al,aR];rfl
  have e2:gE a x (G7 to (p::am) (i::h1))=(if a=to then(if x=p.1 then p.2 else 0) else 0)+gE a x (G7 to am h1):=by
   unfold gE G7;rw[List.zip_cons_cons,al,al,aR];rfl
  rw[e1,e2,Ο ha,Ο ht,I,Q];exact⟨rfl,rfl⟩
theorem NH.J1{d:Int}{c:B4}{B:Int}{N:ω}{S S' : Τ}(h:NH d c B N S)(hS:Qt d c B S')(hb:∀a x,268435456<=a->aW (S'.ξ a x)=aW (S.ξ a x)){rv:List (Int×Int)}:NH d c B { N with wk:=rv } S':=by
 have hh:=h.T;refine⟨hS,h.T,λr p q A=>?_,h.ap,λa x ha=>?_,h.fin⟩
 .obtain⟨p1,p2,p3⟩:=h.pt r p q A;grind
 .have ha:268435456+N.T<=a:=ha;rw[hb a x D];exact h.new a x ha
def NH.bg{d:Int}{c:B4}{B:Int}{N:ω}{S:Τ}(h:NH d c B N S){ν:Int}{b:List (Int×K4)}:NH d c B { N with ν:=ν,Ψ:=b } S:=⟨h.ld,h.T,h.pt,h.ap,h.new,h.fin⟩
theorem NH.ZE{d:Int}{c:B4}{B:Int}{N:ω}{S:Τ}(h:NH d c B N S){r Κ:Int}:NH d c B { N with Γ:=ez N.Γ r ⟨3,Κ,[]⟩ } S:=by
 have A:∀j p,ε (ez N.Γ r ⟨3,Κ,[]⟩) j=some p->p=⟨3,Κ,[]⟩\/ε N.Γ j=some p:=by grind [cF]
 refine⟨h.ld,h.T,λj p q J=>?_,λj j' p p' J q q' a2 a3=>?_,h.new,λj p q a4=>?_⟩
 .rcases A j p q with rfl|q
  .grind
  .exact h.pt j p q J
 .rcases A j p q with rfl|q
  .grind
  .rcases A j' p' q' with rfl|q'
   .grind
   .exact h.ap j j' p p' J q q' a2 a3
 .rcases A j p q with rfl|q
  .grind
  .exact h.fin j p q a4
theorem Hj{d:Int}{c:B4}{B:Int}(A:0<=d/\d<12)(ht:B<=1099511627776){N:ω}{S:Τ}(h:NH d c B N S){m:G4}(hk:ey S+F0 N<=2000):NH d c B (dq d m B N S).2.1 (dq d m B N S).2.2:=by
 unfold dq;cases hp:ε N.Γ m.r with
 | none=>exact h.ZE
 | some p =>
  dsimp only;split
  .rw[iC];exact h.work A ht hp (by have:=lx (bR hp);grind)
  .exact h
theorem LY{d:Int}{c:B4}{B:Int}{N:ω}{S:Τ}(h:NH d c B N S){m:G4}:NH d c B (OI m N S).2.1 (OI m N S).2.2:=by
 unfold OI ω.K5;cases hp:ε N.Γ m.r with
 | none=>exact h
 | some p =>
  dsimp only
  have e:∀x,gx x (p.Α.map (eY m.ai))=gx x p.Α:=λx=>by
   unfold gx;rw[cu];refine congrArg List.sum (aU λo _=>?_);show ia x (eY m.ai o)=ia x o;unfold eY;split
   .rename_i q;show(if(2:Int)=0 then _ else 0)=_;rw[Ο ac,show ia x o=0 from Ο D]
   .rfl
  have lg:∀o,(eY m.ai o).Χ=o.Χ:=λo=>by unfold eY;split<;>rfl
  refine h.K5 hp rfl (λq e=>q (by rw[e];rfl)) (λo ho=>?_) h.ld (λT a x ha=>?_) (λ_=>rfl) λJ o ho=>?_
  .obtain⟨o',A,rfl⟩:=H8 ho;rw[lg];exact(h.pt m.r p hp (λq=>by rw[q] at A;cases A)).2.1 o' A
  .show _=_ - (if a=p.Κ then gx x p.Α - gx x (p.Α.map (eY m.ai)) else 0);rw[e];split<;>omega
  .obtain⟨o',A,rfl⟩:=H8 ho;have q:=h.fin m.r p hp J o' A;unfold eY;split
   .show(2:Int)≠0;decide
   .exact q
theorem HQ{d Ν:Int}{c:B4}{B:Int}(a2:0<=d/\d<12){N:ω}{S:Τ}(h:NH d c B N S){m:G4}(hm:∀l∈m.Α,Qb l)(hk:∀l∈m.Α,ey S+2*l.am.length<=2000):NH d c B (dS d Ν m B N S).2.1 (dS d Ν m B N S).2.2:=by
 unfold dS;split
 .exact h
 split
 .rename_i T;split
  .rename_i A;have e:m.Α[0]!∈m.Α:=ah;have J:=hm _ e;have a3:=J.to;refine h.J1 (h.ld.S5 A) λa x ha=>?_;have q:=ly a2 h.ld.rep (s:=H9 5 B (G7 m.Α[0]!.to m.Α[0]!.am m.Μ)) (by show ey S+C6 (G7 m.Α[0]!.to m.Α[0]!.am m.Μ)<=2000;rw[kA T.2];exact hk _ e) (kL A) a x D;grind [wC,H9]
  .exact h
 .exact h
theorem KJ{d Ν:Int}{c:B4}{B:Int}(A:0<=d/\d<12)(ht:B<=1099511627776){N:ω}{S:Τ}(h:NH d c B N S){m:G4}(hm:m.Ζ=1\/m.Ζ=5->∀l∈m.Α,Qb l)(I:m.Ζ=1->ε N.Γ m.r=none->ey S+cl (B6 d 0 m.Α)<=2000/\N.T+1<=2000)(h5:m.Ζ=5->∀l∈m.Α,ey S+2*l.am.length<=2000)(hk:ey S+F0 N<=2000):NH d c B (aX d Ν m B N S).2.1 (aX d Ν m B N S).2.2:=by
 unfold aX;by_cases k1:m.Ζ=1
 .grind [eM,Kl]
 rw[Ο k1];by_cases k2:m.Ζ=2
 .rw[Ω k2];unfold eu;cases M:ε N.Ψ m.r with
  | none=>exact h
  | some x =>
   dsimp only;split
   .exact h
   split
   .exact h.bg (ν:=N.ν)
   split
   .exact h.bg (ν:=N.ν)
   .exact h.bg (ν:=N.ν)
 rw[Ο k2];by_cases k3:m.Ζ=3
 .rw[Ω k3];exact Hj A ht h hk
 rw[Ο k3];by_cases k4:m.Ζ=4
 .rw[Ω k4];unfold gd ω.J2;cases M:ε N.Ψ m.r with
  | none=>exact h
  | some x=>exact h.bg (ν:=N.ν)
 grind [HQ,LY]
def LM{n:Int}{l:x4}(h:TZ n l)(hf:kh l.fr):Qb l:=by
 have I:=h.fr;have Q:=h.to;have h3:=h.len;have h4:1<=l.fr:=hf.1;refine⟨⟨D,λp hp=>?_⟩,D,D⟩;have q:=h.am p hp;have q1:=q.1;have q2:=q.2;omega
def T6(g:Gh):Prop:=∀r ls,g.Β r=some ls->∀l∈ls,Qb l
theorem T6.G5{g:Gh}(h:T6 g){r:Int}{ls:List x4}(T:∀l∈ls,Qb l):T6 (g.G5 r ls):=λj A q l hm=>by
 have e:(g.G5 r ls).Β j=if j=r then some ls else g.Β j:=rfl;rw[e] at q;by_cases Δ:j=r
 .grind
 .rw[Ο Δ] at q;exact h j A q l hm
theorem T6.Χ{g:Gh}(h:T6 g){k:Int×Int}{l:x4}(T:g.Χ k=some l):Qb l:=by
 unfold Gh.Χ at T;cases hG:g.Β k.1 with
 | none=>grind
 | some ls =>
  rw[hG] at T;dsimp only at T;by_cases h0:0<=k.2
  .rw[Ω h0] at T;exact h k.1 ls hG l ah
  grind
def L4.ZF{g:Gh}{y:fK}(h:L4 g y)(hg:T6 g)(hk:y.ct.Ζ=1\/y.ct.Ζ=5):∀l∈y.ct.Α,Qb l:=λl T=>by
 rcases hk with k|k
 .exact hg _ _ (h.pr k) l T
 .obtain⟨l',q1,q2,_⟩:=h.tr k;rw[q2] at T;rw[GO T];exact hg.Χ q1
