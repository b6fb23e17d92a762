/- Lemmas. -/
import Derived.Test.YtlgpgjdggilkgaaGreatDoorEtba
set_option linter.all false
set_option maxHeartbeats 8000000
namespace Go.Proofs.YtlgpgjdggilkgaaGreatDoor
section
open Go.V
def B3(d:Int):Int->List lu->List hy
 | _,[]=>[]
 | k,l::ls=>if l.d=d then⟨l,k,0,[]⟩::B3 d (k+1) ls else B3 d (k+1) ls
def Ng(d:Int):Int->List Nl->List E9
 | _,[]=>[]
 | k,l::ls=>if l.m.d=d then⟨l,k,0,[],none,0⟩::Ng d (k+1) ls else Ng d (k+1) ls
def qF(d:Int):∀(k:Int) (ls:List Nl),(Ng d k ls).map E9.m=B3 d k (ls.map (·.m))
 | _,[]=>rfl
 | k,l::ls=>by
  rw[aq];unfold Ng B3;by_cases h:l.m.d=d
  .rw[Χ h,Χ h,aq,qF d (k+1) ls];rfl
  .rw[Ν h,Ν h,qF d (k+1) ls]
def wh(d:Int)(l:Nl):∀(k:Int) (ls:List Nl),Ng d k (ls++[l])=Ng d k ls++(if l.m.d=d then[⟨l,k+ls.length,0,[],none,0⟩] else[])
 | k,[]=>by
  rw[ax,show k+(([]:List Nl).length:Int)=k by simp];unfold Ng;split<;>rfl
 | k,p::ls=>by
  rw[au,show k+((p::ls).length:Int)=(k+1)+(ls.length:Int) by rw[aK];omega];have ih:=wh d l (k+1) ls;have e1:∀z:List Nl,Ng d k (p::z)=if p.m.d=d then⟨p,k,0,[],none,0⟩::Ng d (k+1) z else Ng d (k+1) z:=λ_=>rfl;rw[e1,e1,ih];by_cases h:p.m.d=d
  .rw[Χ h,Χ h];rfl
  .rw[Ν h,Ν h]
def Gk(d:Int)(ls:List Nl){i:Nat}(h:i<ls.length):Ng d 0 (ls.take (i+1))=Ng d 0 (ls.take i)++(if ls[i]!.m.d=d then[⟨ls[i]!,(i:Int),0,[],none,0⟩] else[]):=by
 rw[aB h,wh,D7 h,show(0:Int)+((ls.take i).length:Int)=(i:Int) by rw[aP];omega]
def yM(d:Int):∀(k:Int) (ls:List Nl),(Ng d k ls).length<=ls.length
 | _,[]=>an _
 | k,l::ls=>by
  have:=yM d (k+1) ls
  unfold Ng;split
  .rw[aK,aK];omega
  .rw[aK];omega
def sR(d:Int):∀(k:Int) (ls:List Nl),∀o∈Ng d k ls,o.Υ∈ls/\o.Κ=[]/\o.C3=none/\o.state=0/\k<=o.ω/\o.ω<k+ls.length
 | _,[],o,h=>by cases h
 | k,l::ls,o,h=>by
  have ih:=sR d (k+1) ls o;have e1:Ng d k (l::ls)=if l.m.d=d then⟨l,k,0,[],none,0⟩::Ng d (k+1) ls else Ng d (k+1) ls:=rfl;rw[aK]
  have hb:o∈Ng d (k+1) ls->o.Υ∈l::ls/\o.Κ=[]/\o.C3=none/\o.state=0/\k<=o.ω/\o.ω<k+((ls.length+1:Nat):Int):=λq=>by
   obtain⟨K,T,h3,h4,h5,h6⟩:=ih q;exact⟨az _ K,T,h3,h4,D,D⟩
  rw[e1] at h;split at h
  .rcases Nj h with rfl|h
   .exact⟨aA,rfl,rfl,rfl,bE _,by dsimp only;omega⟩
   .exact hb h
  .exact hb h
def iH(Ι:Int)(os:List E9):List J3:=os.flatMap λo=>NM o.Υ.m.fr Ι o.Υ.m.am
def dy(Ι:Int)(os:List hy):List A8:=os.flatMap λo=>B2 o.Υ.fr Ι o.Υ.am
def CM(Ι:Int):∀os:List E9,(iH Ι os).map J3.m=dy Ι (os.map E9.m)
 | []=>rfl
 | o::os=>by
  have ih:=CM Ι os;unfold iH dy at ih ⊢;rw[aT,aQ,ih,aq,aT,kn];rfl
def KQ(a b:List A8):C5 (a++b)=C5 a+C5 b:=mH a b
theorem kL(Ι:Int):∀os:List hy,(∀o∈os,o.state=0)->C5 (dy Ι os)=cl os
 | [],_=>rfl
 | o::os,h=>by
  have ih:=kL Ι os λx O=>h x (az _ O);unfold dy at ih ⊢;rw[aT,KQ,ih,gV];unfold cl;rw[aq,aS,show dW o=o.Υ.am.length from Χ (h o aA)]
def wA(Ι:Int):∀os:List E9,(∀o∈os,o.Υ.m.am.length<=100)->(iH Ι os).length<=100*os.length
 | [],_=>an _
 | o::os,h=>by
  have ih:=wA Ι os λx O=>h x (az _ O);have K:=h o aA;unfold iH at ih ⊢;rw[aT,ay,aK];unfold NM at ih ⊢;rw[al];omega
def wz(Ι:Int)(os:List E9):∀m∈iH Ι os,m.m.Β=[]/\m.pad=none/\m.J2=0:=λm hm=>by
 unfold iH at hm;obtain⟨o,_,T⟩:=List.mem_flatMap.1 hm;obtain⟨a,_,rfl⟩:=H9 T;exact⟨rfl,rfl,rfl⟩
def F.m5{L:Η}:∀Q:List J3,(∀m∈Q,m.m.Β=[]/\m.pad=none/\m.J2=0)->F L (Ψ Ns Q::L)
 | [],_=>F.a8 Ns
 | m::Q,h=>by
  refine(F.m5 Q λx O=>h x (az _ O)).trans ?_;obtain⟨K,T,_⟩:=h m aA;refine(F.f5 aL 3 none).trans ?_;refine F.trans ?_ (F.j6 (f:=Ns) (x:=m) ku);unfold Ns;rw[K,T];exact F.refl _
def Dx(Δ E Ι:Int)(kd:PF Δ)(os:List E9)(h:(iH Ι os).length<=1000000)(fH:OA)(iI:Nat):Sl (Od Δ E (iH Ι os) fH iI):=by
 have hm:=wz Ι os;refine⟨kd,h,by show vi (-1);unfold vi;omega,λm K=>?_,λm K=>?_,λm K p hp=>?_⟩
 .rw[(hm m K).1];exact aC _
 .rw[(hm m K).1];exact aC _
 .rw[(hm m K).1] at hp;cases hp
def JO(d:Int):∀(k:Int) (ls:List Nl) (L:Η),F (Ψ iJ ls::L) (Ψ I9 (Ng d k ls)::L)
 | _,[],L=>F.drop.trans (F.a8 I9)
 | k,l::ls,L=>by
  have e1:Ng d k (l::ls)=if l.m.d=d then⟨l,k,0,[],none,0⟩::Ng d (k+1) ls else Ng d (k+1) ls:=rfl
  have K:F (Ψ iJ (l::ls)::L) (Ψ iJ (l::ls)::Ψ I9 (Ng d (k+1) ls)::L):=by
   refine(F.dup (fi fB).RQ).trans ?_;refine F.c7 ?_;exact(F.g8 λx O=>az _ O).trans (JO d (k+1) ls L)
  rw[e1];split
  .refine K.trans ?_;refine(F.d8 (f:=iJ) (x:=l) aA).trans ?_;refine(F.c7 F.drop).trans ?_;refine(F.f5 (dJ .i64) 1 none).trans (F.swap.trans ?_);refine(F.f9 (fB l) (cQ _ _ _ _)).trans ?_;exact F.j6 (f:=I9) (x:=⟨l,k,0,[],none,0⟩) pH
  .exact K.trans F.drop
noncomputable def eN(d:Int)(m:G3)(E:Int)(N:υ)(S:Ρ):L8 :=
 match ζ N.Β m.A with
 | some p=>([⟨d,bZ m.A,C9 2 m.A 0 (dB (¬p.state=3))⟩],N,S)
 | none =>
  if E6 S 2 E (dy (268435456+N.U) (B3 d 0 m.Z))=true then([⟨d,bZ m.A,C9 2 m.A 0 true⟩],{ N with U:=N.U+1,Β:=cZ N.Β m.A ⟨0,268435456+N.U,B3 d 0 m.Z⟩ },L4 S 2 E (dy (268435456+N.U) (B3 d 0 m.Z)))
  else([⟨d,bZ m.A,C9 2 m.A 0 false⟩],{ N with Β:=cZ N.Β m.A ⟨3,268435456+N.U,[]⟩ },S)
def F.l8{κ α:Type}{kv:κ->Value}{Ε:α->Value}{b:Nat}{l l' : List (κ×α)}(h:QI Ε l=QI Ε l'){L:Η}:F (cS kv Ε b l::L) (cS kv Ε b l'::L):=λθ R w s=>by
 obtain⟨es,B,K,T,h3,h4,h5,s2⟩:=Sat.Tk (L:=L++R) s;refine Sat.c8 s2 ?_ ?_ h3 h4 h5
 .rw[K];have e:=congrArg (List.map λp:κ×Value=>(kv p.1,p.2)) h;unfold QI at e;rw[co,co] at e;exact e
 .rw[<-jQ Ε l',<-h,jQ];exact T
def CS{l:List (Int×J5)}{k:Int}{a b:J5}(h:a.b=b.b):QI cC (cZ l k a)=QI cC (cZ l k b):=by
 rw[kM,kM];unfold cC;rw[h]
def KI(d:Int)(ls:List Nl):∀o∈(Ng d 0 ls).map E9.m,o.state=0:=λo ho=>by
 obtain⟨v,K,rfl⟩:=H9 ho;exact(sR d 0 ls v K).2.2.2.1
def EV(Ι:Int)(os:List E9)(o:E9):iH Ι (os++[o])=iH Ι os++NM o.Υ.m.fr Ι o.Υ.m.am:=by
 unfold iH;rw[dL,aT,cY,aI]
attribute [local irreducible] Α GO GP δ ms GF GE Ev Ef C0 F CB GB V.Enters
abbrev Bo:=Zc [.ev 10,.ev 11]
abbrev Bn:=Za [.ev 6,.ef 7]
abbrev yB:=Za [.ev 6]
abbrev yA:=Zb [.ev 8,.ef 9,.ef 10,.ev 11]
abbrev yz:=Zb [.ef 8,.ef 9]
abbrev yy:List K4:=[.ev 0,.ev 1,.ev 2,.ev 4,.ef 3,.ef 5,.ef 6,.ev 7]
def Vr{φ ψ:Prop}(k:ψ)(h:Hid ψ->φ:=by intro k;(repeat (first|refine ab ?_|intro B6|refine Α.dr 114 1 Bo ?_|refine Α.dr 114 4 Bn ?_|refine Α.dr 114 10 yB ?_|refine Α.dr 114 12 yA ?_|refine Α.dr 114 19 yz ?_|refine Α.dr 114 20 yy ?_));(repeat revert B6);exact Hid.out k):φ:=h ⟨k⟩
def vn{L:Η}(nb lb:Nat)(d G:Int)(n:G0)(S:Ρ)(π:B0)(hS:Oc d π (dg S) S)(d2:0<=n.U/\n.U<=1000000)(E0 E:Int)(c:O6)(hc:O7 c.m)(hk:dg S+cl (B3 d 0 c.m.Z)<=2000) :
  Τ Θ 137 #[av nb,J E0,bF (eV c),J E] (M9 c::eu nb lb d G n (aU lb S::L)) (lS nb lb d G (eN d c.m E n.m S) L):=by
 have a7:vi c.A:=hc.num.2.1;refine Τ.bd ?_;simp only[eu,gL];refine Α.c8 (eO (b:=n.mp)) λhn=>?_;have a6:c.m.A=c.A:=rfl;cases hg:List.lookup c.A n.Β with
 | some x =>
  have U:ζ n.m.Β c.A=some x.m:=by rw[fK,hg];rfl
  have hr:eN d c.m E n.m S=([⟨d,bZ c.A,C9 2 c.A 0 (dB (¬x.state=3))⟩],n.m,S):=by
   unfold eN;rw[a6,U];rfl
  refine Α.cL (F.at (Ο:=ey H6 n.Β) (nr hn hg)) ?_;simp only[Pe,OE];refine Vr ?_;intros;refine δ.Ob (Ev.a8 rfl rfl) ae ?_;rw[hg];dsimp only[Option.map,Option.getD,Option.isSome,cC];refine Vr ?_;intros;refine δ.cr (gy c.A) ?_;refine Vr ?_;intros;refine δ.cL (Γ:=obj nb C4 [av lb,J d,J G,J n.μ,J n.U,.map (some n.mb),.map (some n.mp),.map (some n.mr)]::M9 (O8 2 c.A 0 (dB (¬x.state=3)))::(obj x.b Oe [J x.state,J x.Ι,ah x.bG x.Z.length x.hx]::Ω dz 8 N6 x.bG x.hx x.Z::Ψ I9 x.Z::ey H6 (I1 n.Β c.A) ::cS gm cy n.mb n.Φ::ey I4 n.Φ::cS gm cC n.mp n.Β::cS D5 bL n.mr (J6 n.sh)::aU lb S::L)) ((SK (Δ:=2) (A:=c.A) (ω:=0) (yes:=(dB (¬x.state=3)))).trans ak) ?_;refine δ.ca (fy nb lb d G n.μ n.U n.mb n.mp n.mr (bZ c.A) (O8 2 c.A 0 (dB (¬x.state=3))) (jw (Δ:=2) (ω:=0) (by unfold vi;omega) a7 (by unfold vi;omega))) ?_;rintro _ _⟨y,rfl,Y,rfl⟩;simp only[gL];refine Vr ?_;intros;rename_i B;rw[hr];refine KX.a8 aF ?_ ⟨some ⟨B,0,none⟩,1,[y],({ n with Β:=cZ n.Β c.A x }:G0),rfl,by rw[aq,bz,Y];rfl,(nU n c.A x).trans (by rw[iQ U (by show((QI J5.m n.Β).map (·.1)).Nodup;rw[jQ];exact hn)]),rfl⟩;refine(F.at (Ο:=gM y) (F.d7 (f:=gM) fq)).trans ?_;refine(F.at (Ο:=obj B B1 [J y.m.Λ,J y.m.to,ah y.ad (Pc y.m.ct).length y.cap]) (F.d9 (Ε:=bq) (sz:=3) (I:=[y]) (n:=1) (by simp only[aT,cY,aI];rfl) rfl (by intro x O;rfl) ae)).trans ?_;refine F.trans ?_ (F.c7 (F.c7 (jp hn hg x rfl)));simp only[Pe,OE,gL];exact ak
 | none =>
  have b5:ζ n.m.Β c.A=none:=by rw[fK,hg];rfl
  refine Α.cL Ad ?_;refine Vr ?_;intros;refine δ.Ob (Ev.a8 rfl rfl) ae ?_;rw[hg];dsimp only[Option.map,Option.getD,Option.isSome];refine Vr ?_;intros;rename_i b6 bp;refine δ.NH (Ef.d9 (Ε:=cC) (⟨bp,0,(268435456+n.U),[],none,0⟩:J5) rfl rfl rfl rfl) ?_;rintro _ _ rfl;refine Vr ?_;intros;have d1:c.m.Z.length=c.Z.length:=al _;have d0:=hc.Z;have b7:∀l∈c.Z,lR l.m:=λl U=>hc.lg _ (PB U);refine Α.loop (α:=Nat×OA×Nat×OA×Nat) (λg=>g.1<=c.Z.length) (λg=>[(0,av nb),(3,J E),(6,av b6),(9,av bp),(11,ah g.2.2.2.1 (iH (268435456+n.U) (Ng d 0 (c.Z.take g.1))).length g.2.2.2.2),(12,ah g.2.1 (Ng d 0 (c.Z.take g.1)).length g.2.2.1),(45,ah c.bG c.Z.length c.hx),(46,J (c.Z.length:Int)),(47,J (g.1:Int))]) (λg=>Ω dz 8 N6 g.2.1 g.2.2.1 (Ng d 0 (c.Z.take g.1))::Ω cu 5 OY g.2.2.2.1 g.2.2.2.2 (iH (268435456+n.U) (Ng d 0 (c.Z.take g.1)))::ξ aZ 5 c.bG c.Z::Ψ iJ c.Z::obj b6 OM (eV c)::obj bp Oe [J 0,J (268435456+n.U),ah none 0 0]::obj nb C4 [av lb,J d,J G,J n.μ,J n.U,.map (some n.mb),.map (some n.mp),.map (some n.mr)]::cS gm cy n.mb n.Φ::ey I4 n.Φ::cS gm cC n.mp (cZ n.Β c.A (⟨bp,0,(268435456+n.U),[],none,0⟩:J5))::ey H6 n.Β::cS D5 bL n.mr (J6 n.sh)::aU lb S::L) (λg=>c.Z.length - g.1) (0,none,0,none,0) (aC _) aD ?_ ?_
  .dsimp only;rw[bj];refine(F.c8 cu 5 OY).trans ((F.c8 dz 8 N6).trans ?_);simp only[Ng,iH,cY];exact ak
  rintro⟨i,bG,hx,fH,iI⟩ hi;dsimp only at hi ⊢;have b9:=yM d 0 (c.Z.take i);rw[aP] at b9;have b1:∀o∈(Ng d 0 (c.Z.take i)),o.Υ.m.am.length<=100:=λo ho=>(b7 _ (cp (sR d 0 _ o ho).1)).2.1;have c2:=wA (268435456+n.U) (Ng d 0 (c.Z.take i)) b1;by_cases b0:i<c.Z.length
  case neg =>
   have c5:c.Z.take i=c.Z:=aM D;rw[c5] at b9 c2 ⊢;have b8:(iH (268435456+n.U) (Ng d 0 c.Z)).map J3.m=dy (268435456+n.U) (B3 d 0 c.m.Z):=by rw[CM,qF];rfl
   have c3:C5 (dy (268435456+n.U) (B3 d 0 c.m.Z))=cl (B3 d 0 c.m.Z):=kL _ _ (by rw[show B3 d 0 c.m.Z=(Ng d 0 c.Z).map E9.m from(qF d 0 c.Z).symm];exact KI d c.Z);refine Vr ?_;intros;refine GO.cL (Γ:=Ω cu 5 OY fH iI (iH (268435456+n.U) (Ng d 0 c.Z))::Ψ Ns (iH (268435456+n.U) (Ng d 0 c.Z))::obj nb C4 [av lb,J d,J G,J n.μ,J n.U,.map (some n.mb),.map (some n.mp),.map (some n.mr)]::aU lb S::(Ω dz 8 N6 bG hx (Ng d 0 c.Z)::Ψ iJ c.Z::obj b6 OM (eV c)::obj bp Oe [J 0,J (268435456+n.U),ah none 0 0]::cS gm cy n.mb n.Φ::ey I4 n.Φ::cS gm cC n.mp (cZ n.Β c.A (⟨bp,0,(268435456+n.U),[],none,0⟩:J5))::ey H6 n.Β::cS D5 bL n.mr (J6 n.sh)::L)) ((F.m5 _ (wz (268435456+n.U) (Ng d 0 c.Z))).trans ak) ?_;refine GO.ca (jy nb lb d G n.μ n.U n.mb n.mp n.mr π (dg S) S hS 2 E (iH (268435456+n.U) (Ng d 0 c.Z)) fH iI (Dx _ _ _ (by unfold PF;omega) _ D _ _) (by rw[b8,c3];exact hk)) ?_;rw[b8];rintro _ _⟨C3,F1,rfl,rfl⟩;simp only[gL];cases Pn:E6 S 2 E (dy (268435456+n.U) (B3 d 0 c.m.Z)) with
   | true =>
    have hr:eN d c.m E n.m S=([⟨d,bZ c.A,C9 2 c.A 0 (dB (¬(0:Int)=3))⟩],{ n.m with U:=n.m.U+1,Β:=cZ n.m.Β c.A ⟨0,(268435456+n.U),B3 d 0 c.m.Z⟩ },L4 S 2 E (dy (268435456+n.U) (B3 d 0 c.m.Z))):=by
     unfold eN;rw[a6,b5];dsimp only;rw[Χ (show E6 S 2 E (dy (268435456+n.m.U) (B3 d 0 c.m.Z))=true from Pn),bN (show ¬(0:Int)=3 by decide)];rfl
    refine Vr ?_;intros;refine δ.cr (gy c.A) ?_;refine Vr ?_;intros;refine δ.cL (Γ:=obj nb C4 [av lb,J d,J G,J n.μ,J (n.U+1),.map (some n.mb),.map (some n.mp),.map (some n.mr)]::M9 (O8 2 c.A 0 (dB (¬(0:Int)=3)))::(Ω dz 8 N6 bG hx (Ng d 0 c.Z)::Ψ iJ c.Z::obj bp Oe [J 0,J (268435456+n.U),ah bG (Ng d 0 c.Z).length hx]::cS gm cy n.mb n.Φ::ey I4 n.Φ::cS gm cC n.mp (cZ n.Β c.A (⟨bp,0,(268435456+n.U),[],none,0⟩:J5))::ey H6 n.Β::cS D5 bL n.mr (J6 n.sh)::aU lb (L4 S 2 E (dy (268435456+n.U) (B3 d 0 c.m.Z)))::L)) ((SK (Δ:=2) (A:=c.A) (ω:=0) (yes:=(dB (¬(0:Int)=3)))).trans ak) ?_;refine δ.ca (fy nb lb d G n.μ (n.U+1) n.mb n.mp n.mr (bZ c.A) (O8 2 c.A 0 (dB (¬(0:Int)=3))) (jw (Δ:=2) (ω:=0) (by unfold vi;omega) a7 (by unfold vi;omega))) ?_;rintro _ _⟨y,rfl,Y,rfl⟩;simp only[gL];refine Vr ?_;intros;rename_i B;rw[hr];refine KX.a8 aF ?_ ⟨some ⟨B,0,none⟩,1,[y],({ n with U:=n.U+1,Β:=cZ n.Β c.A (⟨bp,0,(268435456+n.U),Ng d 0 c.Z,bG,hx⟩:J5) }:G0),rfl,by rw[aq,bz,Y];rfl,(nU { n with U:=n.U+1 } c.A (⟨bp,0,(268435456+n.U),Ng d 0 c.Z,bG,hx⟩:J5)).trans (by rw[show J5.m (⟨bp,0,(268435456+n.U),Ng d 0 c.Z,bG,hx⟩:J5)=⟨0,(268435456+n.U),B3 d 0 c.m.Z⟩ by unfold J5.m;rw[qF];rfl];rfl),rfl⟩;refine(F.at (Ο:=gM y) (F.d7 (f:=gM) fq)).trans ?_;refine(F.at (Ο:=obj B B1 [J y.m.Λ,J y.m.to,ah y.ad (Pc y.m.ct).length y.cap]) (F.d9 (Ε:=bq) (sz:=3) (I:=[y]) (n:=1) (by simp only[aT,cY,aI];rfl) rfl (by intro x O;rfl) ae)).trans ?_;refine(F.at (Ο:=Ψ iJ c.Z) (JO d 0 c.Z _)).trans ?_;refine(F.at (Ο:=cS gm cC n.mp (cZ n.Β c.A (⟨bp,0,(268435456+n.U),[],none,0⟩:J5))) (F.l8 (CS (a:=(⟨bp,0,(268435456+n.U),[],none,0⟩:J5)) (b:=(⟨bp,0,(268435456+n.U),Ng d 0 c.Z,bG,hx⟩:J5)) rfl))).trans ?_;refine F.trans ?_ (F.c7 (F.c7 (yX (n:={ n with U:=n.U+1 }) hn hg (⟨bp,0,(268435456+n.U),Ng d 0 c.Z,bG,hx⟩:J5))));simp only[Pe,OE,gL];exact ak
   | false =>
    have hr:eN d c.m E n.m S=([⟨d,bZ c.A,C9 2 c.A 0 (dB (¬(3:Int)=3))⟩],{ n.m with Β:=cZ n.m.Β c.A ⟨3,(268435456+n.U),[]⟩ },S):=by
     unfold eN;rw[a6,b5];dsimp only;rw[Ν (show ¬E6 S 2 E (dy (268435456+n.m.U) (B3 d 0 c.m.Z))=true by rw[show E6 S 2 E (dy (268435456+n.m.U) (B3 d 0 c.m.Z))=false from Pn];exact fo),bB (show ¬ ¬(3:Int)=3 by decide)];rfl
    have c4:=mY Pn;rw[c4];refine Vr ?_;intros;refine δ.cr (gy c.A) ?_;refine Vr ?_;intros;refine δ.cL (Γ:=obj nb C4 [av lb,J d,J G,J n.μ,J n.U,.map (some n.mb),.map (some n.mp),.map (some n.mr)]::M9 (O8 2 c.A 0 (dB (¬(3:Int)=3)))::(obj bp Oe [J 3,J (268435456+n.U),ah none 0 0]::cS gm cy n.mb n.Φ::ey I4 n.Φ::cS gm cC n.mp (cZ n.Β c.A (⟨bp,0,(268435456+n.U),[],none,0⟩:J5))::ey H6 n.Β::cS D5 bL n.mr (J6 n.sh)::aU lb S::L)) ((SK (Δ:=2) (A:=c.A) (ω:=0) (yes:=(dB (¬(3:Int)=3)))).trans ak) ?_;refine δ.ca (fy nb lb d G n.μ n.U n.mb n.mp n.mr (bZ c.A) (O8 2 c.A 0 (dB (¬(3:Int)=3))) (jw (Δ:=2) (ω:=0) (by unfold vi;omega) a7 (by unfold vi;omega))) ?_;rintro _ _⟨y,rfl,Y,rfl⟩;simp only[gL];refine Vr ?_;intros;rename_i B;rw[hr];refine KX.a8 aF ?_ ⟨some ⟨B,0,none⟩,1,[y],({ n with Β:=cZ n.Β c.A (⟨bp,3,(268435456+n.U),[],none,0⟩:J5) }:G0),rfl,by rw[aq,bz,Y];rfl,nU n c.A (⟨bp,3,(268435456+n.U),[],none,0⟩:J5),rfl⟩;refine(F.at (Ο:=gM y) (F.d7 (f:=gM) fq)).trans ?_;refine(F.at (Ο:=obj B B1 [J y.m.Λ,J y.m.to,ah y.ad (Pc y.m.ct).length y.cap]) (F.d9 (Ε:=bq) (sz:=3) (I:=[y]) (n:=1) (by simp only[aT,cY,aI];rfl) rfl (by intro x O;rfl) ae)).trans ?_;refine(F.c8 dz 8 N6).trans ((F.a8 I9).trans ?_);refine(F.at (Ο:=cS gm cC n.mp (cZ n.Β c.A (⟨bp,0,(268435456+n.U),[],none,0⟩:J5))) (F.l8 (CS (a:=(⟨bp,0,(268435456+n.U),[],none,0⟩:J5)) (b:=(⟨bp,3,(268435456+n.U),[],none,0⟩:J5)) rfl))).trans ?_;refine F.trans ?_ (F.c7 (F.c7 (yX hn hg (⟨bp,3,(268435456+n.U),[],none,0⟩:J5))));simp only[Pe,OE,gL];exact ak
  have a9:(i:Int).toNat=i:=D;have a3:c.Z[i]!∈c.Z:=by rw[D7 b0];exact cX b0
  have c1:c.Z[i]!.m.am.length<=100:=(b7 _ a3).2.1;have M:=Gk d c.Z b0;refine Α.cL (F.at (Ο:=Ψ iJ c.Z) (F.d8 (f:=iJ) a3)) ?_;by_cases K:c.Z[(i:Int).toNat]!.m.d=d
  .have a2:=K;rw[a9] at a2;rw[Χ a2] at M;refine Vr ?_;intros;rw[a9];refine GO.ef (Ef.a8 (Ε:=dz) (e:=(⟨c.Z[i]!,(i:Int),0,[],none,0⟩:E9)) rfl rfl rfl rfl rfl bh (Hj _) D D) ae ?_;rintro _ _⟨b3,a4,rfl,rfl⟩;refine Vr ?_;intros;refine δ.ca (jB c.Z[i]!.ad _ _ c.Z[i]!.m.am rfl D c.Z[i]!.m.fr (268435456+n.U)) ?_;rintro _ _⟨c6,c0,rfl,rfl⟩;refine Vr ?_;intros;have d3:(NM c.Z[i]!.m.fr (268435456+n.U) c.Z[i]!.m.am).length<=100:=by unfold NM;rw[al];exact c1
   refine δ.ef (Ef.c9 (Ε:=cu) (ys:=NM c.Z[i]!.m.fr (268435456+n.U) c.Z[i]!.m.am) rfl rfl rfl rfl rfl (λe _=>mO e) D D) ae ?_;rintro _ _⟨b4,a5,rfl,rfl⟩;refine Vr ?_;intros;have b2:=EV (268435456+n.U) (Ng d 0 (c.Z.take i)) (⟨c.Z[i]!,(i:Int),0,[],none,0⟩:E9);dsimp only at b2;refine⟨(i+1,b3,a4,b4,a5),by dsimp only;omega,by dsimp only;omega,?_,?_⟩
   .dsimp only;rw[M,b2,bC i];exact aD
   .dsimp only;rw[M,b2];exact ak
  .have a2:=K;rw[a9] at a2;rw[Ν a2,aI] at M;refine Vr ?_;intros;refine⟨(i+1,bG,hx,fH,iI),by dsimp only;omega,by dsimp only;omega,?_,?_⟩
   .dsimp only;rw[M,bC i];exact aD
   .dsimp only;rw[M];exact ak
end
section
open Go.V
abbrev XK:Nat:=157
instance adi:QZ Θ 157 D5:=Xp
def qy{κ:Type}[DecidableEq κ](k:κ):∀l:List κ,((List.lookup k (l.map λg=>(g,true))).map bL).getD (.bool false)=.bool (dB (k∈l))
 | []=>by rw[bB (λh=>hD h aG)];rfl
 | g::l=>by
  by_cases h:k=g
  .subst h;rw[bN aA];simp[bL]
  .have T:(k == g)=false:=by simpa using h
   have ih:=qy k l;rw[show dB (k∈g::l)=dB (k∈l) by rw[dH,dH];simp[h],<-ih,aq,cA];simp only[T]
def Ku{k:Int×Int}{l:List (Int×Int)}(h:k∈l):((@List.lookup _ _ instBEqOfDecidableEq k (J6 l)).map bL).getD (.bool false)=.bool true :=
 (qy k l).trans (congrArg Value.bool (by rw[dH];simp[h]))
def Il{k:Int×Int}{l:List (Int×Int)}(h:k∉l):((@List.lookup _ _ instBEqOfDecidableEq k (J6 l)).map bL).getD (.bool false)=.bool false :=
 (qy k l).trans (congrArg Value.bool (by rw[dH];simp[h]))
def Kn{l:List (Int×Int)}{k:Int×Int}(h:k∉l):cZ (J6 l) k true=J6 (l++[k]):=by
 cases hg:ζ (J6 l) k with
 | some b =>
  obtain⟨g,K,T⟩:=H9 (bQ hg);have:g=k:=congrArg Prod.fst T;exact hD (this▸K) h
 | none =>
  rw[pR hg];unfold J6;rw[aQ];rfl
def jI(to:Int)(p:(Int×Int)×Int):A8:=⟨0,to,p.1.1,p.1.2,[(p.2,0,p.1.2)]⟩
def G7(to:Int)(am:List (Int×Int))(fl:List Int):List A8:=(am.zip fl).map (jI to)
def nv{to:Int}{am:List (Int×Int)}{fl:List Int}(h:fl.length=am.length):(G7 to am fl).length=am.length:=by
 unfold G7;rw[al,List.length_zip,h,Nat.min_self]
def La{to:Int}{am:List (Int×Int)}{fl:List Int}(h:fl.length=am.length){i:Nat}(hi:i<am.length):(G7 to am fl)[i]'(by rw[nv h];exact hi)=jI to (am[i]!,fl[i]!):=by
 unfold G7;rw[eW,List.getElem_zip,D7 hi,D7 D]
theorem kC{to:Int}:∀{am:List (Int×Int)} {fl:List Int},fl.length=am.length->C5 (G7 to am fl)=2*am.length
 | [],[],_=>rfl
 | a::am,f::fl,h=>by
  have ih:=kC (to:=to) (am:=am) (fl:=fl) (by simpa using h);show(1+1)+C5 (G7 to am fl)=_;rw[ih,aK];omega
 | a::am,[],h=>by simp at h
 | [],f::fl,h=>by simp at h
structure Tv (to:Int) (am:List (Int×Int)) (fl:List Int) (i:Nat) (zs:List J3):Prop where
 le:i<=am.length
 len:zs.length=am.length
 Q:zs.map J3.m=(G7 to am fl).take i++(B2 0 to am).drop i
 cap:∀m∈zs,m.m.Β.length<=m.J2
def Tv.zero{to:Int}{am:List (Int×Int)}{fl:List Int}:Tv to am fl 0 (NM 0 to am):=by
 refine⟨aC _,?_,?_,λm hm=>?_⟩
 .unfold NM;rw[al]
 .rw[kn];rfl
 .obtain⟨a,_,rfl⟩:=H9 hm;exact an _
def Tv.at{to:Int}{am:List (Int×Int)}{fl:List Int}{i:Nat}{zs:List J3}(h:Tv to am fl i zs)(hf:fl.length=am.length)(hi:i<am.length):zs[i]!.m=⟨0,to,am[i]!.1,am[i]!.2,[]⟩:=by
 have U:=nv (to:=to) hf;have e:=eJ (f:=J3.m) (l:=zs) (i:=i) (by rw[h.len];exact hi);have B:(B2 0 to am).length=am.length:=by unfold B2;rw[al]
 rw[<-e,h.Q,D7 (by rw[ay,aP,cB];omega),dT (by rw[aP];omega),List.getElem_drop];unfold B2;rw[eW];simp only[aP,U,dF h.le];rw[D7 hi];simp
def Tv.next{to:Int}{am:List (Int×Int)}{fl:List Int}{i:Nat}{zs:List J3}(h:Tv to am fl i zs)(hf:fl.length=am.length)(hi:i<am.length){z:J3}(hz:z.m=jI to (am[i]!,fl[i]!))(hc:1<=z.J2):Tv to am fl (i+1) (zs.set i z):=by
 have U:=nv (to:=to) hf;have B:(B2 0 to am).length=am.length:=by unfold B2;rw[al]
 refine⟨hi,by rw[bT];exact h.len,?_,λm hm=>?_⟩
 .rw[List.map_set,h.Q,fw _ _ (by rw[aP];omega),aP,U,dF h.le,Nat.sub_self,bY D,fR,aB D,La hf hi,hz,aH];rfl
 .rcases List.mem_or_eq_of_mem_set hm with q|rfl
  .exact h.cap m q
  .rw[hz];exact hc
noncomputable def dU(d E0:Int)(m:G3)(E:Int)(N:υ)(S:Ρ):L8 :=
 if(m.A,m.ω)∈N.sh then([⟨d,E0,C9 6 m.A m.ω false⟩],N,S)
 else if m.Z.length=1/\m.Κ.length=m.Z[0]!.am.length then
  if E6 S 5 E (G7 m.Z[0]!.to m.Z[0]!.am m.Κ)=true then([⟨d,E0,C9 6 m.A m.ω false⟩],{ N with sh:=N.sh++[(m.A,m.ω)] },L4 S 5 E (G7 m.Z[0]!.to m.Z[0]!.am m.Κ)) else([],N,S)
 else([],N,S)
attribute [local irreducible] Α GO GP δ ms GF GE Ev Ef C0 F CB GB V.Enters
abbrev Bm:=Za [.ev 6]
abbrev Bl:=Zd [.ev 13,.ev 14,.ev 15]
abbrev Bk:=Zc [.ef 10,.ev 11]
abbrev Bj:=Zd [.ef 13,.ev 14,.ev 15,.ef 16]
abbrev yx:=YZ [.ev 4,.ef 5]
def VK{φ ψ:Prop}(k:ψ)(h:Hid ψ->φ:=by intro k;(repeat (first|refine ab ?_|intro B6|refine Α.dr 98 2 Bm ?_|refine Α.dr 98 3 Bl ?_|refine Α.dr 98 5 Bk ?_|refine Α.dr 98 9 Bj ?_|refine Α.dr 98 14 yx ?_));(repeat revert B6);exact Hid.out k):φ:=h ⟨k⟩
def um{L:Η}(nb lb:Nat)(d G:Int)(n:G0)(S:Ρ)(π:B0)(hS:Oc d π (dg S) S)(E0 E:Int)(c:O6)(hc:O7 c.m)(hk:∀l∈c.m.Z,dg S+2*l.am.length<=2000) :
  Τ Θ 141 #[av nb,J E0,bF (eV c),J E] (M9 c::eu nb lb d G n (aU lb S::L)) (lS nb lb d G (dU d E0 c.m E n.m S) L):=by
 have a6:vi c.A:=hc.num.2.1;have a7:vi c.ω:=hc.num.2.2;refine Τ.bd ?_;simp only[eu,gL];refine Α.cL Ad ?_;have c0:c.m.Z.length=c.Z.length:=al _;refine VK ?_;intros;refine δ.Ob (Ev.j5 (k:=(c.A,c.ω)) rfl rfl) ae ?_;by_cases hin:(c.A,c.ω)∈n.sh
 .rw[Ku hin];have hr:dU d E0 c.m E n.m S=([⟨d,E0,C9 6 c.A c.ω false⟩],n.m,S):=Χ hin;refine VK ?_;intros;refine GO.cL (Γ:=obj nb C4 [av lb,J d,J G,J n.μ,J n.U,.map (some n.mb),.map (some n.mp),.map (some n.mr)]::M9 (O8 6 c.A c.ω false)::(cS gm cy n.mb n.Φ::ey I4 n.Φ::cS gm cC n.mp n.Β::ey H6 n.Β::cS D5 bL n.mr (J6 n.sh)::aU lb S::L)) ((SK (Δ:=6) (A:=c.A) (ω:=c.ω) (yes:=false)).trans ak) ?_;refine GO.ca (fy nb lb d G n.μ n.U n.mb n.mp n.mr E0 (O8 6 c.A c.ω false) (jw (Δ:=6) (by unfold vi;omega) a6 a7)) ?_;rintro _ _⟨y,rfl,Y,rfl⟩;simp only[gL];refine VK ?_;intros;rename_i M;rw[hr];refine KX.a8 aF ?_ ⟨some ⟨M,0,none⟩,1,[y],({ n with sh:=n.sh }:G0),rfl,by rw[aq,bz,Y];rfl,rfl,rfl⟩;refine(F.at (Ο:=gM y) (F.d7 (f:=gM) fq)).trans ?_;refine(F.at (Ο:=obj M B1 [J y.m.Λ,J y.m.to,ah y.ad (Pc y.m.ct).length y.cap]) (F.d9 (Ε:=bq) (sz:=3) (I:=[y]) (n:=1) (by simp only[aT,cY,aI];rfl) rfl (by intro x O;rfl) ae)).trans ?_;simp only[eu,gL];exact ak
 .rw[Il hin];by_cases K:c.Z.length=1
  .have a3:c.m.Z[0]! = c.Z[0]!.m:=eJ D;by_cases T:(c.Κ.length:Int)=(c.Z[Int.toNat 0]!.m.am.length:Int)
   .have a2 : c.Κ.length=c.Z[0]!.m.am.length:=by
     rw[show Int.toNat 0=0 from rfl] at T;omega
    have B:c.Z[0]!∈c.Z:=by rw[D7 D];exact cX D
    have b3:lR c.Z[0]!.m:=hc.lg _ (PB B);have b8:=b3.2.1;have c3:dg S+2*c.Z[0]!.m.am.length<=2000:=hk _ (PB B);have c1:=hc.fl;have b1:=hc.fn
    have b0:dU d E0 c.m E n.m S=if E6 S 5 E (G7 c.Z[0]!.m.to c.Z[0]!.m.am c.Κ)=true then([⟨d,E0,C9 6 c.A c.ω false⟩],{ n.m with sh:=n.sh++[(c.A,c.ω)] },L4 S 5 E (G7 c.Z[0]!.m.to c.Z[0]!.m.am c.Κ)) else([],n.m,S):=by
     unfold dU;rw[Ν (show ¬(c.m.A,c.m.ω)∈n.m.sh from hin),Χ (show c.m.Z.length=1/\c.m.Κ.length=c.m.Z[0]!.am.length from⟨D,by rw[a3];exact a2⟩),a3];rfl
    refine VK ?_;intros;refine δ.cL (F.at (Ο:=Ψ iJ c.Z) (F.d8 (f:=iJ) B)) ?_;rw[show Int.toNat 0=0 from rfl];refine δ.ca (jB c.Z[0]!.ad _ _ c.Z[0]!.m.am rfl D 0 c.Z[0]!.m.to) ?_;rintro _ _⟨fH,iI,rfl,rfl⟩;refine VK ?_;intros;rename_i b6 b9;refine Α.loop (α:=Nat×List J3) (λg=>Tv c.Z[0]!.m.to c.Z[0]!.m.am c.Κ g.1 g.2) (λg=>[(0,av nb),(1,J E0),(3,J E),(6,av b6),(9,av b9),(10,ah fH g.2.length iI),(54,J (c.Z[0]!.m.am.length:Int)),(55,J (g.1:Int))]) (λg=>Ω cu 5 OY fH iI g.2::Ψ Ns g.2::ξ (dJ .i64) 1 c.C3 c.Κ::iJ c.Z[0]!::obj b9 XK [J c.A,J c.ω]::obj b6 OM (eV c)::obj nb C4 [av lb,J d,J G,J n.μ,J n.U,.map (some n.mb),.map (some n.mp),.map (some n.mr)]::cS gm cy n.mb n.Φ::ey I4 n.Φ::cS gm cC n.mp n.Β::ey H6 n.Β::cS D5 bL n.mr (J6 n.sh)::aU lb S::L) (λg=>c.Z[0]!.m.am.length - g.1) (0,NM 0 c.Z[0]!.m.to c.Z[0]!.m.am) Tv.zero (by dsimp only;rw[show(NM 0 c.Z[0]!.m.to c.Z[0]!.m.am).length=c.Z[0]!.m.am.length by unfold NM;rw[al]];exact aD) ((F.j9 0 c.Z[0]!.m.to c.Z[0]!.m.am).trans (by dsimp only;exact ak)) ?_;rintro⟨i,zs⟩ hI;dsimp only at hI ⊢;have c5:=hI.len;have c4:=hI.le;by_cases a9:i<c.Z[0]!.m.am.length
    case neg =>
     have c2:=nv (to:=c.Z[0]!.m.to) a2
     have a4:zs.map J3.m=(G7 c.Z[0]!.m.to c.Z[0]!.m.am c.Κ):=by
      rw[hI.Q,aM D,bU (by unfold B2;rw[al];omega),aI]
     have b4:C5 (G7 c.Z[0]!.m.to c.Z[0]!.m.am c.Κ)=2*c.Z[0]!.m.am.length:=kC a2
     have b7:Sl (Od 5 E zs fH iI):=by
      have hm:∀m∈zs,∃a f,f∈c.Κ/\m.m=jI c.Z[0]!.m.to (a,f):=λm hm=>by
       have h3:m.m∈(G7 c.Z[0]!.m.to c.Z[0]!.m.am c.Κ):=by rw[<-a4];exact PB hm
       unfold G7 at h3;obtain⟨⟨a,f⟩,h4,h5⟩:=H9 h3;exact⟨a,f,(fP h4).2,h5.symm⟩
      refine⟨.inr (.inr (.inr (.inl rfl))),show zs.length<=1000000 by omega,by show vi (-1);unfold vi;omega,λm h=>?_,hI.cap,λm h p hp=>?_⟩
      .obtain⟨a,f,_,e⟩:=hm m h;rw[e];exact(show(1:Nat)<=9223372036854775807 by decide)
      .obtain⟨a,f,hf,e⟩:=hm m h;rw[e] at hp;obtain rfl:=F6 hp;exact(b1 f hf).2
     refine VK ?_;intros;refine GO.cL (Γ:=Ω cu 5 OY fH iI zs::Ψ Ns zs::obj nb C4 [av lb,J d,J G,J n.μ,J n.U,.map (some n.mb),.map (some n.mp),.map (some n.mr)]::aU lb S::(obj b9 XK [J c.A,J c.ω]::obj b6 OM (eV c)::cS gm cy n.mb n.Φ::ey I4 n.Φ::cS gm cC n.mp n.Β::ey H6 n.Β::cS D5 bL n.mr (J6 n.sh)::L)) ak ?_;refine GO.ca (jy nb lb d G n.μ n.U n.mb n.mp n.mr π (dg S) S hS 5 E zs fH iI b7 (by rw[a4,b4];omega)) ?_;rw[a4];rintro _ _⟨C3,F1,rfl,rfl⟩;simp only[gL];cases Pn:E6 S 5 E (G7 c.Z[0]!.m.to c.Z[0]!.m.am c.Κ) with
     | true =>
      have hr:=b0;rw[Χ Pn] at hr;refine VK ?_;intros;refine δ.NH (Ef.d9 (k:=(c.A,c.ω)) (Ε:=bL) true rfl rfl rfl rfl) ?_;rintro _ _ rfl;rw[Kn hin];refine VK ?_;intros;refine GO.cL (Γ:=obj nb C4 [av lb,J d,J G,J n.μ,J n.U,.map (some n.mb),.map (some n.mp),.map (some n.mr)]::M9 (O8 6 c.A c.ω false)::(cS gm cy n.mb n.Φ::ey I4 n.Φ::cS gm cC n.mp n.Β::ey H6 n.Β::cS D5 bL n.mr (J6 (n.sh++[(c.A,c.ω)]))::aU lb (L4 S 5 E (G7 c.Z[0]!.m.to c.Z[0]!.m.am c.Κ))::L)) ((SK (Δ:=6) (A:=c.A) (ω:=c.ω) (yes:=false)).trans ak) ?_;refine GO.ca (fy nb lb d G n.μ n.U n.mb n.mp n.mr E0 (O8 6 c.A c.ω false) (jw (Δ:=6) (by unfold vi;omega) a6 a7)) ?_;rintro _ _⟨y,rfl,Y,rfl⟩;simp only[gL];refine VK ?_;intros;rename_i M;rw[hr];refine KX.a8 aF ?_ ⟨some ⟨M,0,none⟩,1,[y],({ n with sh:=(n.sh++[(c.A,c.ω)]) }:G0),rfl,by rw[aq,bz,Y];rfl,rfl,rfl⟩;refine(F.at (Ο:=gM y) (F.d7 (f:=gM) fq)).trans ?_;refine(F.at (Ο:=obj M B1 [J y.m.Λ,J y.m.to,ah y.ad (Pc y.m.ct).length y.cap]) (F.d9 (Ε:=bq) (sz:=3) (I:=[y]) (n:=1) (by simp only[aT,cY,aI];rfl) rfl (by intro x O;rfl) ae)).trans ?_;simp only[eu,gL];exact ak
     | false =>
      have hr:=b0;rw[Ν (by rw[Pn];exact fo)] at hr;have b5:=mY Pn;rw[b5];refine VK ?_;intros;rw[hr];refine KX.a8 aF ?_ ⟨none,0,[],n,rfl,rfl,rfl,rfl⟩;refine(F.c8 bq 3 B1).trans ((F.a8 gM).trans ?_);simp only[eu,gL];exact ak
    have b2:(i:Int).toNat=i:=D;have a5:=hI.at a2 a9;refine VK ?_;intros;rename_i bl;rw[b2,show zs[i]!.m.n=c.Z[0]!.m.am[i]!.2 by rw[a5]];refine δ.NH (Ef.d7 (Ε:=cu) (e:=(⟨⟨0,c.Z[0]!.m.to,c.Z[0]!.m.am[i]!.1,c.Z[0]!.m.am[i]!.2,[(c.Κ[i]!,0,c.Z[0]!.m.am[i]!.2)]⟩,some ⟨bl,0,none⟩,1⟩:J3)) rfl rfl (by rw[show cu zs[i]! = [J zs[i]!.m.Λ,J zs[i]!.m.to,J zs[i]!.m.a1,J zs[i]!.m.n,ah zs[i]!.pad zs[i]!.m.Β.length zs[i]!.J2] from rfl,a5];rfl) rfl D ae) ?_;rintro _ _ rfl;refine VK ?_;intros;refine⟨(i+1,zs.set i (⟨⟨0,c.Z[0]!.m.to,c.Z[0]!.m.am[i]!.1,c.Z[0]!.m.am[i]!.2,[(c.Κ[i]!,0,c.Z[0]!.m.am[i]!.2)]⟩,some ⟨bl,0,none⟩,1⟩:J3)),hI.next a2 a9 rfl (an _),by dsimp only;omega,?_,?_⟩
    .dsimp only;rw[bT,bC i];exact aD
    .dsimp only;refine(F.at (Ο:=obj bl I7 [J c.Κ[i]!,J 0,J c.Z[0]!.m.am[i]!.2]) (F.d9 (Ε:=aL) (sz:=3) (I:=[((c.Κ[i]!,0,c.Z[0]!.m.am[i]!.2):h2)]) (n:=1) bh rfl (by intro x O;rfl) ae)).trans ?_;refine F.N9.trans ?_;refine(F.at (Ο:=Ψ Ns zs) (F.refl _)).trans ?_;refine(F.at (Ο:=ξ aL 3 (some ⟨bl,0,none⟩) [((c.Κ[i]!,0,c.Z[0]!.m.am[i]!.2):h2)]) (F.j7 (f:=Ns) (l:=zs) (i:=i) (x:=(⟨⟨0,c.Z[0]!.m.to,c.Z[0]!.m.am[i]!.1,c.Z[0]!.m.am[i]!.2,[(c.Κ[i]!,0,c.Z[0]!.m.am[i]!.2)]⟩,some ⟨bl,0,none⟩,1⟩:J3)) ku)).trans ?_;exact ak
   .have hr:dU d E0 c.m E n.m S=([],n.m,S):=by
     unfold dU
     rw[Ν (show ¬(c.m.A,c.m.ω)∈n.m.sh from hin),Ν (λq=>T (by
      have q2:=q.2;rw[a3] at q2;rw[show Int.toNat 0=0 from rfl];have q3:c.Κ.length=c.Z[0]!.m.am.length:=q2;omega))]
    refine VK ?_;intros;rw[hr];refine KX.a8 aF ?_ ⟨none,0,[],n,rfl,rfl,rfl,rfl⟩;refine(F.c8 bq 3 B1).trans ((F.a8 gM).trans ?_);simp only[eu,gL];exact ak
  .have hr:dU d E0 c.m E n.m S=([],n.m,S):=by
    unfold dU;rw[Ν (show ¬(c.m.A,c.m.ω)∈n.m.sh from hin),Ν (λq=>K D)]
   refine VK ?_;intros;rw[hr];refine KX.a8 aF ?_ ⟨none,0,[],n,rfl,rfl,rfl,rfl⟩;refine(F.c8 bq 3 B1).trans ((F.a8 gM).trans ?_);simp only[eu,gL];exact ak
