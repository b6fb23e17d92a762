/- Exchanges: the handler of prepare. -/
import Derived.Test.YtlgpgjdggilkgaaGreatDoorEdba
set_option linter.all false
set_option maxHeartbeats 8000000
namespace Go.Proofs.YtlgpgjdggilkgaaGreatDoor
open Go.V
def B6(d:Int):Int->List x4->List hD
 | _,[]=>[]
 | k,l::ls=>if l.d=d then⟨l,k,0,[]⟩::B6 d (k+1) ls else B6 d (k+1) ls
def MW(d:Int):Int->List MT->List E9
 | _,[]=>[]
 | k,l::ls=>if l.m.d=d then⟨l,k,0,[],none,0⟩::MW d (k+1) ls else MW d (k+1) ls
def qD(d:Int):∀(k:Int) (ls:List MT),(MW d k ls).map E9.m=B6 d k (ls.map (·.m))
 | _,[]=>rfl
 | k,l::ls=>by
  rw[al];unfold MW B6;by_cases h:l.m.d=d
  .rw[Ω h,Ω h,al,qD d (k+1) ls];rfl
  .rw[Ο h,Ο h,qD d (k+1) ls]
def wq(d:Int)(l:MT):∀(k:Int) (ls:List MT),MW d k (ls++[l])=MW d k ls++(if l.m.d=d then[⟨l,k+ls.length,0,[],none,0⟩] else[])
 | k,[]=>by
  rw[av,show k+(([]:List MT).length:Int)=k by simp];unfold MW;split<;>rfl
 | k,p::ls=>by
  rw[aq,show k+((p::ls).length:Int)=(k+1)+(ls.length:Int) by rw[aL];omega];have ih:=wq d l (k+1) ls;have e1:∀z:List MT,MW d k (p::z)=if p.m.d=d then⟨p,k,0,[],none,0⟩::MW d (k+1) z else MW d (k+1) z:=λ_=>rfl;rw[e1,e1,ih];by_cases h:p.m.d=d
  .rw[Ω h,Ω h];rfl
  .rw[Ο h,Ο h]
def Ge(d:Int)(ls:List MT){i:Nat}(h:i<ls.length):MW d 0 (ls.take (i+1))=MW d 0 (ls.take i)++(if ls[i]!.m.d=d then[⟨ls[i]!,(i:Int),0,[],none,0⟩] else[]):=by
 rw[aB h,wq,E7 h,show(0:Int)+((ls.take i).length:Int)=(i:Int) by rw[aP];omega]
def yQ(d:Int):∀(k:Int) (ls:List MT),(MW d k ls).length<=ls.length
 | _,[]=>ax _
 | k,l::ls=>by
  have:=yQ d (k+1) ls
  unfold MW;split
  .rw[aL,aL];omega
  .rw[aL];omega
def sR(d:Int):∀(k:Int) (ls:List MT),∀o∈MW d k ls,o.Χ∈ls/\o.Μ=[]/\o.C4=none/\o.state=0/\k<=o.ai/\o.ai<k+ls.length
 | _,[],o,h=>by cases h
 | k,l::ls,o,h=>by
  have ih:=sR d (k+1) ls o;have e1:MW d k (l::ls)=if l.m.d=d then⟨l,k,0,[],none,0⟩::MW d (k+1) ls else MW d (k+1) ls:=rfl;rw[aL]
  have hb:o∈MW d (k+1) ls->o.Χ∈l::ls/\o.Μ=[]/\o.C4=none/\o.state=0/\k<=o.ai/\o.ai<k+((ls.length+1:Nat):Int):=λq=>by
   obtain⟨I,Q,h3,h4,h5,h6⟩:=ih q;exact⟨az _ I,Q,h3,h4,D,D⟩
  rw[e1] at h;split at h
  .rcases L7 h with rfl|h
   .exact⟨au,rfl,rfl,rfl,bE _,by dsimp only;omega⟩
   .exact hb h
  .exact hb h
def iH(Κ:Int)(os:List E9):List J5:=os.flatMap λo=>Ns o.Χ.m.fr Κ o.Χ.m.am
def dx(Κ:Int)(os:List hD):List B1:=os.flatMap λo=>B5 o.Χ.fr Κ o.Χ.am
def CJ(Κ:Int):∀os:List E9,(iH Κ os).map J5.m=dx Κ (os.map E9.m)
 | []=>rfl
 | o::os=>by
  have ih:=CJ Κ os;unfold iH dx at ih ⊢;rw[aS,aQ,ih,al,aS,kj];rfl
def Kz(a b:List B1):C6 (a++b)=C6 a+C6 b:=mG a b
theorem kJ(Κ:Int):∀os:List hD,(∀o∈os,o.state=0)->C6 (dx Κ os)=cl os
 | [],_=>rfl
 | o::os,h=>by
  have ih:=kJ Κ os λx M=>h x (az _ M);unfold dx at ih ⊢;rw[aS,Kz,ih,gX];unfold cl;rw[al,aR,show dU o=o.Χ.am.length from Ω (h o au)]
def wE(Κ:Int):∀os:List E9,(∀o∈os,o.Χ.m.am.length<=100)->(iH Κ os).length<=100*os.length
 | [],_=>ax _
 | o::os,h=>by
  have ih:=wE Κ os λx M=>h x (az _ M);have I:=h o au;unfold iH at ih ⊢;rw[aS,aA,aL];unfold Ns at ih ⊢;rw[ak];omega
def wD(Κ:Int)(os:List E9):∀m∈iH Κ os,m.m.Γ=[]/\m.pad=none/\m.J3=0:=λm hm=>by
 unfold iH at hm;obtain⟨o,_,Q⟩:=List.mem_flatMap.1 hm;obtain⟨a,_,rfl⟩:=H8 Q;exact⟨rfl,rfl,rfl⟩
def E.m8{L:Ι}:∀O:List J5,(∀m∈O,m.m.Γ=[]/\m.pad=none/\m.J3=0)->E L (η Na O::L)
 | [],_=>E.c7 Na
 | m::O,h=>by
  refine(E.m8 O λx M=>h x (az _ M)).trans ?_;obtain⟨I,Q,_⟩:=h m au;refine(E.f7 aK 3 none).trans ?_;refine E.trans ?_ (E.j5 (f:=Na) (x:=m) kq);unfold Na;rw[I,Q];exact E.refl _
def Du(Ζ B Κ:Int)(kd:Pe Ζ)(os:List E9)(h:(iH Κ os).length<=1000000)(gi:OA)(iM:Nat):RN (NR Ζ B (iH Κ os) gi iM):=by
 have hm:=wD Κ os;refine⟨kd,h,by show xs (-1);unfold xs;omega,λm I=>?_,λm I=>?_,λm I p hp=>?_⟩
 .rw[(hm m I).1];exact aD _
 .rw[(hm m I).1];exact aD _
 .rw[(hm m I).1] at hp;cases hp
def JB(d:Int):∀(k:Int) (ls:List MT) (L:Ι),E (η ms ls::L) (η I9 (MW d k ls)::L)
 | _,[],L=>E.drop.trans (E.c7 I9)
 | k,l::ls,L=>by
  have e1:MW d k (l::ls)=if l.m.d=d then⟨l,k,0,[],none,0⟩::MW d (k+1) ls else MW d (k+1) ls:=rfl
  have I:E (η ms (l::ls)::L) (η ms (l::ls)::η I9 (MW d (k+1) ls)::L):=by
   refine(E.dup (eV fx).QM).trans ?_;refine E.a8 ?_;exact(E.g9 λx M=>az _ M).trans (JB d (k+1) ls L)
  rw[e1];split
  .refine I.trans ?_;refine(E.d8 (f:=ms) (x:=l) au).trans ?_;refine(E.a8 E.drop).trans ?_;refine(E.f7 (eU .i64) 1 none).trans (E.swap.trans ?_);refine(E.g8 (fx l) (cT _ _ _ _)).trans ?_;exact E.j5 (f:=I9) (x:=⟨l,k,0,[],none,0⟩) pC
  .exact I.trans E.drop
noncomputable def eM(d:Int)(m:G4)(B:Int)(N:ω)(S:Τ):L6 :=
 match ε N.Γ m.r with
 | some p=>([⟨d,bX m.r,D4 2 m.r 0 (dB (¬p.state=3))⟩],N,S)
 | none =>
  if E6 S 2 B (dx (268435456+N.T) (B6 d 0 m.Α))=true then([⟨d,bX m.r,D4 2 m.r 0 true⟩],{ N with T:=N.T+1,Γ:=ez N.Γ m.r ⟨0,268435456+N.T,B6 d 0 m.Α⟩ },L3 S 2 B (dx (268435456+N.T) (B6 d 0 m.Α)))
  else([⟨d,bX m.r,D4 2 m.r 0 false⟩],{ N with Γ:=ez N.Γ m.r ⟨3,268435456+N.T,[]⟩ },S)
def E.m6{κ α:Type}{kv:κ->Value}{Η:α->Value}{b:Nat}{l l' : List (κ×α)}(h:Qn Η l=Qn Η l'){L:Ι}:E (ew kv Η b l::L) (ew kv Η b l'::L):=λθ R w s=>by
 obtain⟨es,A,I,Q,h3,h4,h5,s2⟩:=Sat.SK (L:=L++R) s;refine Sat.c8 s2 ?_ ?_ h3 h4 h5
 .rw[I];have e:=congrArg (List.map λp:κ×Value=>(kv p.1,p.2)) h;unfold Qn at e;rw[cu,cu] at e;exact e
 .rw[<-jO Η l',<-h,jO];exact Q
def CP{l:List (Int×J6)}{k:Int}{a b:J6}(h:a.b=b.b):Qn cC (ez l k a)=Qn cC (ez l k b):=by
 rw[kK,kK];unfold cC;rw[h]
def Kr(d:Int)(ls:List MT):∀o∈(MW d 0 ls).map E9.m,o.state=0:=λo ho=>by
 obtain⟨v,I,rfl⟩:=H8 ho;exact(sR d 0 ls v I).2.2.2.1
def EP(Κ:Int)(os:List E9)(o:E9):iH Κ (os++[o])=iH Κ os++Ns o.Χ.m.fr Κ o.Χ.m.am:=by
 unfold iH;rw[dJ,aS,cZ,aJ]
attribute [local irreducible] Β Y GP δ vi GF GE Z Ef C0 E CB GB V.Enters
abbrev Bk:=Yu [.ev 10,.ev 11]
abbrev Bj:=Ys [.ev 6,.ef 7]
abbrev yE:=Ys [.ev 6]
abbrev yD:=Yt [.ev 8,.ef 9,.ef 10,.ev 11]
abbrev yC:=Yt [.ef 8,.ef 9]
abbrev yB:List K3:=[.ev 0,.ev 1,.ev 2,.ev 4,.ef 3,.ef 5,.ef 6,.ev 7]
def UZ{φ ψ:Prop}(k:ψ)(h:Hid ψ->φ:=by intro k;(repeat (first|refine ab ?_|intro B8|refine Β.dr 114 1 Bk ?_|refine Β.dr 114 4 Bj ?_|refine Β.dr 114 10 yE ?_|refine Β.dr 114 12 yD ?_|refine Β.dr 114 19 yC ?_|refine Β.dr 114 20 yB ?_));(repeat revert B8);exact Hid.out k):φ:=h ⟨k⟩
def vt{L:Ι}(nb lb:Nat)(d F:Int)(n:G2)(S:Τ)(υ:B4)(hS:NQ d υ (ey S) S)(d2:0<=n.T/\n.T<=1000000)(E0 B:Int)(c:OK)(hc:OL c.m)(hk:ey S+cl (B6 d 0 c.m.Α)<=2000) :
  Υ Λ 137 #[ay nb,K E0,bC (eO c),K B] (MV c::fh nb lb d F n (aT lb S::L)) (lQ nb lb d F (eM d c.m B n.m S) L):=by
 have a7:xs c.r:=hc.num.2.1;refine Υ.bd ?_;simp only[fh,hl];refine Β.c8 (eN (b:=n.mp)) λhn=>?_;have a6:c.m.r=c.r:=rfl;cases hg:List.lookup c.r n.Γ with
 | some x =>
  have T:ε n.m.Γ c.r=some x.m:=by rw[fN,hg];rfl
  have hr:eM d c.m B n.m S=([⟨d,bX c.r,D4 2 c.r 0 (dB (¬x.state=3))⟩],n.m,S):=by
   unfold eM;rw[a6,T];rfl
  refine Β.cM (E.at (Φ:=h2 H6 n.Γ) (nk hn hg)) ?_;simp only[OU,Of];refine UZ ?_;intros;refine δ.NV (Z.a8 rfl rfl) ac ?_;rw[hg];dsimp only[Option.map,Option.getD,Option.isSome,cC];refine UZ ?_;intros;refine δ.cr (gz c.r) ?_;refine UZ ?_;intros;refine δ.cM (Ε:=obj nb C5 [ay lb,K d,K F,K n.ν,K n.T,.map (some n.mb),.map (some n.mp),.map (some n.mr)]::MV (OM 2 c.r 0 (dB (¬x.state=3)))::(obj x.b NS [K x.state,K x.Κ,ae x.bD x.Α.length x.id]::μ dy 8 NN x.bD x.id x.Α::η I9 x.Α::h2 H6 (I1 n.Γ c.r) ::ew gT cz n.mb n.Ψ::h2 I2 n.Ψ::ew gT cC n.mp n.Γ::ew D6 bM n.mr (J7 n.wk)::aT lb S::L)) ((Sd (Ζ:=2) (r:=c.r) (ai:=0) (yes:=(dB (¬x.state=3)))).trans aj) ?_;refine δ.ca (fE nb lb d F n.ν n.T n.mb n.mp n.mr (bX c.r) (OM 2 c.r 0 (dB (¬x.state=3))) (jt (Ζ:=2) (ai:=0) (by unfold xs;omega) a7 (by unfold xs;omega))) ?_;rintro _ _⟨y,rfl,U,rfl⟩;simp only[hl];refine UZ ?_;intros;rename_i A;rw[hr];refine KX.a8 aC ?_ ⟨some ⟨A,0,none⟩,1,[y],({ n with Γ:=ez n.Γ c.r x }:G2),rfl,by rw[al,bu,U];rfl,(nM n c.r x).trans (by rw[iQ T (by show((Qn J6.m n.Γ).map (·.1)).Nodup;rw[jO];exact hn)]),rfl⟩;refine(E.at (Φ:=gO y) (E.d7 (f:=gO) fj)).trans ?_;refine(E.at (Φ:=obj A B2 [K y.m.Ν,K y.m.to,ae y.ad (OR y.m.ct).length y.cap]) (E.d9 (Η:=be) (sz:=3) (G:=[y]) (n:=1) (by simp only[aS,cZ,aJ];rfl) rfl (by intro x M;rfl) ac)).trans ?_;refine E.trans ?_ (E.a8 (E.a8 (jo hn hg x rfl)));simp only[OU,Of,hl];exact aj
 | none =>
  have b5:ε n.m.Γ c.r=none:=by rw[fN,hg];rfl
  refine Β.cM Ab ?_;refine UZ ?_;intros;refine δ.NV (Z.a8 rfl rfl) ac ?_;rw[hg];dsimp only[Option.map,Option.getD,Option.isSome];refine UZ ?_;intros;rename_i b6 bp;refine δ.No (Ef.d9 (Η:=cC) (⟨bp,0,(268435456+n.T),[],none,0⟩:J6) rfl rfl rfl rfl) ?_;rintro _ _ rfl;refine UZ ?_;intros;have d1:c.m.Α.length=c.Α.length:=ak _;have d0:=hc.Α;have b7:∀l∈c.Α,lP l.m:=λl T=>hc.lg _ (O6 T);refine Β.loop (α:=Nat×OA×Nat×OA×Nat) (λg=>g.1<=c.Α.length) (λg=>[(0,ay nb),(3,K B),(6,ay b6),(9,ay bp),(11,ae g.2.2.2.1 (iH (268435456+n.T) (MW d 0 (c.Α.take g.1))).length g.2.2.2.2),(12,ae g.2.1 (MW d 0 (c.Α.take g.1)).length g.2.2.1),(45,ae c.bD c.Α.length c.id),(46,K (c.Α.length:Int)),(47,K (g.1:Int))]) (λg=>μ dy 8 NN g.2.1 g.2.2.1 (MW d 0 (c.Α.take g.1))::μ cq 5 OC g.2.2.2.1 g.2.2.2.2 (iH (268435456+n.T) (MW d 0 (c.Α.take g.1)))::τ aZ 5 c.bD c.Α::η ms c.Α::obj b6 Oo (eO c)::obj bp NS [K 0,K (268435456+n.T),ae none 0 0]::obj nb C5 [ay lb,K d,K F,K n.ν,K n.T,.map (some n.mb),.map (some n.mp),.map (some n.mr)]::ew gT cz n.mb n.Ψ::h2 I2 n.Ψ::ew gT cC n.mp (ez n.Γ c.r (⟨bp,0,(268435456+n.T),[],none,0⟩:J6))::h2 H6 n.Γ::ew D6 bM n.mr (J7 n.wk)::aT lb S::L) (λg=>c.Α.length - g.1) (0,none,0,none,0) (aD _) aG ?_ ?_
  .dsimp only;rw[bA];refine(E.c8 cq 5 OC).trans ((E.c8 dy 8 NN).trans ?_);simp only[MW,iH,cZ];exact aj
  rintro⟨i,bD,id,gi,iM⟩ hi;dsimp only at hi ⊢;have b9:=yQ d 0 (c.Α.take i);rw[aP] at b9;have b1:∀o∈(MW d 0 (c.Α.take i)),o.Χ.m.am.length<=100:=λo ho=>(b7 _ (cI (sR d 0 _ o ho).1)).2.1;have c2:=wE (268435456+n.T) (MW d 0 (c.Α.take i)) b1;by_cases b0:i<c.Α.length
  case neg =>
   have c5:c.Α.take i=c.Α:=aN D;rw[c5] at b9 c2 ⊢;have b8:(iH (268435456+n.T) (MW d 0 c.Α)).map J5.m=dx (268435456+n.T) (B6 d 0 c.m.Α):=by rw[CJ,qD];rfl
   have c3:C6 (dx (268435456+n.T) (B6 d 0 c.m.Α))=cl (B6 d 0 c.m.Α):=kJ _ _ (by rw[show B6 d 0 c.m.Α=(MW d 0 c.Α).map E9.m from(qD d 0 c.Α).symm];exact Kr d c.Α);refine UZ ?_;intros;refine Y.cM (Ε:=μ cq 5 OC gi iM (iH (268435456+n.T) (MW d 0 c.Α))::η Na (iH (268435456+n.T) (MW d 0 c.Α))::obj nb C5 [ay lb,K d,K F,K n.ν,K n.T,.map (some n.mb),.map (some n.mp),.map (some n.mr)]::aT lb S::(μ dy 8 NN bD id (MW d 0 c.Α)::η ms c.Α::obj b6 Oo (eO c)::obj bp NS [K 0,K (268435456+n.T),ae none 0 0]::ew gT cz n.mb n.Ψ::h2 I2 n.Ψ::ew gT cC n.mp (ez n.Γ c.r (⟨bp,0,(268435456+n.T),[],none,0⟩:J6))::h2 H6 n.Γ::ew D6 bM n.mr (J7 n.wk)::L)) ((E.m8 _ (wD (268435456+n.T) (MW d 0 c.Α))).trans aj) ?_;refine Y.ca (jv nb lb d F n.ν n.T n.mb n.mp n.mr υ (ey S) S hS 2 B (iH (268435456+n.T) (MW d 0 c.Α)) gi iM (Du _ _ _ (by unfold Pe;omega) _ D _ _) (by rw[b8,c3];exact hk)) ?_;rw[b8];rintro _ _⟨C4,F3,rfl,rfl⟩;simp only[hl];cases O0:E6 S 2 B (dx (268435456+n.T) (B6 d 0 c.m.Α)) with
   | true =>
    have hr:eM d c.m B n.m S=([⟨d,bX c.r,D4 2 c.r 0 (dB (¬(0:Int)=3))⟩],{ n.m with T:=n.m.T+1,Γ:=ez n.m.Γ c.r ⟨0,(268435456+n.T),B6 d 0 c.m.Α⟩ },L3 S 2 B (dx (268435456+n.T) (B6 d 0 c.m.Α))):=by
     unfold eM;rw[a6,b5];dsimp only;rw[Ω (show E6 S 2 B (dx (268435456+n.m.T) (B6 d 0 c.m.Α))=true from O0),bO (show ¬(0:Int)=3 by decide)];rfl
    refine UZ ?_;intros;refine δ.cr (gz c.r) ?_;refine UZ ?_;intros;refine δ.cM (Ε:=obj nb C5 [ay lb,K d,K F,K n.ν,K (n.T+1),.map (some n.mb),.map (some n.mp),.map (some n.mr)]::MV (OM 2 c.r 0 (dB (¬(0:Int)=3)))::(μ dy 8 NN bD id (MW d 0 c.Α)::η ms c.Α::obj bp NS [K 0,K (268435456+n.T),ae bD (MW d 0 c.Α).length id]::ew gT cz n.mb n.Ψ::h2 I2 n.Ψ::ew gT cC n.mp (ez n.Γ c.r (⟨bp,0,(268435456+n.T),[],none,0⟩:J6))::h2 H6 n.Γ::ew D6 bM n.mr (J7 n.wk)::aT lb (L3 S 2 B (dx (268435456+n.T) (B6 d 0 c.m.Α)))::L)) ((Sd (Ζ:=2) (r:=c.r) (ai:=0) (yes:=(dB (¬(0:Int)=3)))).trans aj) ?_;refine δ.ca (fE nb lb d F n.ν (n.T+1) n.mb n.mp n.mr (bX c.r) (OM 2 c.r 0 (dB (¬(0:Int)=3))) (jt (Ζ:=2) (ai:=0) (by unfold xs;omega) a7 (by unfold xs;omega))) ?_;rintro _ _⟨y,rfl,U,rfl⟩;simp only[hl];refine UZ ?_;intros;rename_i A;rw[hr];refine KX.a8 aC ?_ ⟨some ⟨A,0,none⟩,1,[y],({ n with T:=n.T+1,Γ:=ez n.Γ c.r (⟨bp,0,(268435456+n.T),MW d 0 c.Α,bD,id⟩:J6) }:G2),rfl,by rw[al,bu,U];rfl,(nM { n with T:=n.T+1 } c.r (⟨bp,0,(268435456+n.T),MW d 0 c.Α,bD,id⟩:J6)).trans (by rw[show J6.m (⟨bp,0,(268435456+n.T),MW d 0 c.Α,bD,id⟩:J6)=⟨0,(268435456+n.T),B6 d 0 c.m.Α⟩ by unfold J6.m;rw[qD];rfl];rfl),rfl⟩;refine(E.at (Φ:=gO y) (E.d7 (f:=gO) fj)).trans ?_;refine(E.at (Φ:=obj A B2 [K y.m.Ν,K y.m.to,ae y.ad (OR y.m.ct).length y.cap]) (E.d9 (Η:=be) (sz:=3) (G:=[y]) (n:=1) (by simp only[aS,cZ,aJ];rfl) rfl (by intro x M;rfl) ac)).trans ?_;refine(E.at (Φ:=η ms c.Α) (JB d 0 c.Α _)).trans ?_;refine(E.at (Φ:=ew gT cC n.mp (ez n.Γ c.r (⟨bp,0,(268435456+n.T),[],none,0⟩:J6))) (E.m6 (CP (a:=(⟨bp,0,(268435456+n.T),[],none,0⟩:J6)) (b:=(⟨bp,0,(268435456+n.T),MW d 0 c.Α,bD,id⟩:J6)) rfl))).trans ?_;refine E.trans ?_ (E.a8 (E.a8 (yZ (n:={ n with T:=n.T+1 }) hn hg (⟨bp,0,(268435456+n.T),MW d 0 c.Α,bD,id⟩:J6))));simp only[OU,Of,hl];exact aj
   | false =>
    have hr:eM d c.m B n.m S=([⟨d,bX c.r,D4 2 c.r 0 (dB (¬(3:Int)=3))⟩],{ n.m with Γ:=ez n.m.Γ c.r ⟨3,(268435456+n.T),[]⟩ },S):=by
     unfold eM;rw[a6,b5];dsimp only;rw[Ο (show ¬E6 S 2 B (dx (268435456+n.m.T) (B6 d 0 c.m.Α))=true by rw[show E6 S 2 B (dx (268435456+n.m.T) (B6 d 0 c.m.Α))=false from O0];exact fu),bz (show ¬ ¬(3:Int)=3 by decide)];rfl
    have c4:=mU O0;rw[c4];refine UZ ?_;intros;refine δ.cr (gz c.r) ?_;refine UZ ?_;intros;refine δ.cM (Ε:=obj nb C5 [ay lb,K d,K F,K n.ν,K n.T,.map (some n.mb),.map (some n.mp),.map (some n.mr)]::MV (OM 2 c.r 0 (dB (¬(3:Int)=3)))::(obj bp NS [K 3,K (268435456+n.T),ae none 0 0]::ew gT cz n.mb n.Ψ::h2 I2 n.Ψ::ew gT cC n.mp (ez n.Γ c.r (⟨bp,0,(268435456+n.T),[],none,0⟩:J6))::h2 H6 n.Γ::ew D6 bM n.mr (J7 n.wk)::aT lb S::L)) ((Sd (Ζ:=2) (r:=c.r) (ai:=0) (yes:=(dB (¬(3:Int)=3)))).trans aj) ?_;refine δ.ca (fE nb lb d F n.ν n.T n.mb n.mp n.mr (bX c.r) (OM 2 c.r 0 (dB (¬(3:Int)=3))) (jt (Ζ:=2) (ai:=0) (by unfold xs;omega) a7 (by unfold xs;omega))) ?_;rintro _ _⟨y,rfl,U,rfl⟩;simp only[hl];refine UZ ?_;intros;rename_i A;rw[hr];refine KX.a8 aC ?_ ⟨some ⟨A,0,none⟩,1,[y],({ n with Γ:=ez n.Γ c.r (⟨bp,3,(268435456+n.T),[],none,0⟩:J6) }:G2),rfl,by rw[al,bu,U];rfl,nM n c.r (⟨bp,3,(268435456+n.T),[],none,0⟩:J6),rfl⟩;refine(E.at (Φ:=gO y) (E.d7 (f:=gO) fj)).trans ?_;refine(E.at (Φ:=obj A B2 [K y.m.Ν,K y.m.to,ae y.ad (OR y.m.ct).length y.cap]) (E.d9 (Η:=be) (sz:=3) (G:=[y]) (n:=1) (by simp only[aS,cZ,aJ];rfl) rfl (by intro x M;rfl) ac)).trans ?_;refine(E.c8 dy 8 NN).trans ((E.c7 I9).trans ?_);refine(E.at (Φ:=ew gT cC n.mp (ez n.Γ c.r (⟨bp,0,(268435456+n.T),[],none,0⟩:J6))) (E.m6 (CP (a:=(⟨bp,0,(268435456+n.T),[],none,0⟩:J6)) (b:=(⟨bp,3,(268435456+n.T),[],none,0⟩:J6)) rfl))).trans ?_;refine E.trans ?_ (E.a8 (E.a8 (yZ hn hg (⟨bp,3,(268435456+n.T),[],none,0⟩:J6))));simp only[OU,Of,hl];exact aj
  have a9:(i:Int).toNat=i:=D;have a3:c.Α[i]!∈c.Α:=by rw[E7 b0];exact cY b0
  have c1:c.Α[i]!.m.am.length<=100:=(b7 _ a3).2.1;have J:=Ge d c.Α b0;refine Β.cM (E.at (Φ:=η ms c.Α) (E.d8 (f:=ms) a3)) ?_;by_cases I:c.Α[(i:Int).toNat]!.m.d=d
  .have a2:=I;rw[a9] at a2;rw[Ω a2] at J;refine UZ ?_;intros;rw[a9];refine Y.ef (Ef.a8 (Η:=dy) (e:=(⟨c.Α[i]!,(i:Int),0,[],none,0⟩:E9)) rfl rfl rfl rfl rfl aY (GZ _) D D) ac ?_;rintro _ _⟨b3,a4,rfl,rfl⟩;refine UZ ?_;intros;refine δ.ca (jz c.Α[i]!.ad _ _ c.Α[i]!.m.am rfl D c.Α[i]!.m.fr (268435456+n.T)) ?_;rintro _ _⟨c6,c0,rfl,rfl⟩;refine UZ ?_;intros;have d3:(Ns c.Α[i]!.m.fr (268435456+n.T) c.Α[i]!.m.am).length<=100:=by unfold Ns;rw[ak];exact c1
   refine δ.ef (Ef.c9 (Η:=cq) (ys:=Ns c.Α[i]!.m.fr (268435456+n.T) c.Α[i]!.m.am) rfl rfl rfl rfl rfl (λe _=>mN e) D D) ac ?_;rintro _ _⟨b4,a5,rfl,rfl⟩;refine UZ ?_;intros;have b2:=EP (268435456+n.T) (MW d 0 (c.Α.take i)) (⟨c.Α[i]!,(i:Int),0,[],none,0⟩:E9);dsimp only at b2;refine⟨(i+1,b3,a4,b4,a5),by dsimp only;omega,by dsimp only;omega,?_,?_⟩
   .dsimp only;rw[J,b2,bJ i];exact aG
   .dsimp only;rw[J,b2];exact aj
  .have a2:=I;rw[a9] at a2;rw[Ο a2,aJ] at J;refine UZ ?_;intros;refine⟨(i+1,bD,id,gi,iM),by dsimp only;omega,by dsimp only;omega,?_,?_⟩
   .dsimp only;rw[J,bJ i];exact aG
   .dsimp only;rw[J];exact aj
