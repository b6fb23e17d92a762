/- Exchanges: the handler of prepare. -/
import Derived.Test.YtlgpgjdggilkgaaGreatDoorErbf
set_option linter.all false
set_option maxHeartbeats 8000000
namespace Go.Proofs.YtlgpgjdggilkgaaGreatDoor
open Go.V
def II(d:Int):Int->List G7->List B0
 | _,[]=>[]
 | k,l::ls=>if l.d=d then⟨l,k,0,[]⟩::II d (k+1) ls else II d (k+1) ls
def IE(d:Int):Int->List IL->List D5
 | _,[]=>[]
 | k,l::ls=>if l.m.d=d then⟨l,k,0,[],none,0⟩::IE d (k+1) ls else IE d (k+1) ls
def oD(d:Int):∀(k:Int) (ls:List IL),(IE d k ls).map D5.m=II d k (ls.map (·.m))
 | _,[]=>rfl
 | k,l::ls=>by
  rw[aF];unfold IE II;by_cases h:l.m.d=d
  .rw[μ h,μ h,aF,oD d (k+1) ls];rfl
  .rw[Ω h,Ω h,oD d (k+1) ls]
def tb(d:Int)(l:IL):∀(k:Int) (ls:List IL),IE d k (ls++[l])=IE d k ls++(if l.m.d=d then[⟨l,k+ls.length,0,[],none,0⟩] else[])
 | k,[]=>by
  rw[ak,show k+(([]:List IL).length:Int)=k by simp];unfold IE;split<;>rfl
 | k,p::ls=>by
  rw[aj,show k+((p::ls).length:Int)=(k+1)+(ls.length:Int) by rw[aO];omega];have ih:=tb d l (k+1) ls;have e1:∀z:List IL,IE d k (p::z)=if p.m.d=d then⟨p,k,0,[],none,0⟩::IE d (k+1) z else IE d (k+1) z:=λ_=>rfl;rw[e1,e1,ih];by_cases h:p.m.d=d
  .rw[μ h,μ h];rfl
  .rw[Ω h,Ω h]
def CT(d:Int)(ls:List IL){i:Nat}(h:i<ls.length):IE d 0 (ls.take (i+1))=IE d 0 (ls.take i)++(if ls[i]!.m.d=d then[⟨ls[i]!,(i:Int),0,[],none,0⟩] else[]):=by
 rw[av h,tb,C5 h,show(0:Int)+((ls.take i).length:Int)=(i:Int) by rw[aK];omega]
def vA(d:Int):∀(k:Int) (ls:List IL),(IE d k ls).length<=ls.length
 | _,[]=>au _
 | k,l::ls=>by
  have:=vA d (k+1) ls
  unfold IE;split
  .rw[aO,aO];omega
  .rw[aO];omega
def qq(d:Int):∀(k:Int) (ls:List IL),∀o∈IE d k ls,o.bB∈ls/\o.Ι=[]/\o.A7=none/\o.state=0/\k<=o.eZ/\o.eZ<k+ls.length
 | _,[],o,h=>by cases h
 | k,l::ls,o,h=>by
  have ih:=qq d (k+1) ls o;have e1:IE d k (l::ls)=if l.m.d=d then⟨l,k,0,[],none,0⟩::IE d (k+1) ls else IE d (k+1) ls:=rfl;rw[aO]
  have hb:o∈IE d (k+1) ls->o.bB∈l::ls/\o.Ι=[]/\o.A7=none/\o.state=0/\k<=o.eZ/\o.eZ<k+((ls.length+1:Nat):Int):=λq=>by
   obtain⟨J,U,h3,h4,h5,h6⟩:=ih q;exact⟨aB _ J,U,h3,h4,B,B⟩
  rw[e1] at h;split at h
  .rcases Jr h with rfl|h
   .exact⟨az,rfl,rfl,rfl,co _,by dsimp only;omega⟩
   .exact hb h
  .exact hb h
def gU(Φ:Int)(os:List D5):List G0:=os.flatMap λo=>I8 o.bB.m.fr Φ o.bB.m.am
def fU(Φ:Int)(os:List B0):List A9:=os.flatMap λo=>Ij o.bB.fr Φ o.bB.am
def zL(Φ:Int):∀os:List D5,(gU Φ os).map G0.m=fU Φ (os.map D5.m)
 | []=>rfl
 | o::os=>by
  have ih:=zL Φ os;unfold gU fU at ih ⊢;rw[aR,aL,ih,aF,aR,jn];rfl
def Gw(a b:List A9):C2 (a++b)=C2 a+C2 b:=lk a b
def oG(Φ:Int):∀os:List B0,(∀o∈os,o.state=0)->C2 (fU Φ os)=cy os
 | [],_=>rfl
 | o::os,h=>by
  have ih:=oG Φ os λx K=>h x (aB _ K);unfold fU at ih ⊢;rw[aR,Gw,ih,ik];unfold cy;rw[aF,bZ,show eU o=o.bB.am.length from μ (h o az)]
def tj(Φ:Int):∀os:List D5,(∀o∈os,o.bB.m.am.length<=100)->(gU Φ os).length<=100*os.length
 | [],_=>au _
 | o::os,h=>by
  have ih:=tj Φ os λx K=>h x (aB _ K);have J:=h o az;unfold gU at ih ⊢;rw[aR,aq,aO];unfold I8 at ih ⊢;rw[ah];omega
def ti(Φ:Int)(os:List D5):∀m∈gU Φ os,m.m.Ζ=[]/\m.pad=none/\m.F6=0:=λm hm=>by
 unfold gU at hm;obtain⟨o,_,U⟩:=List.mem_flatMap.1 hm;obtain⟨a,_,rfl⟩:=IY U;exact⟨rfl,rfl,rfl⟩
def A.m7{L:LH}:∀T:List G0,(∀m∈T,m.m.Ζ=[]/\m.pad=none/\m.F6=0)->A L (Ρ G2 T::L)
 | [],_=>A.a8 G2
 | m::T,h=>by
  refine(A.m7 T λx K=>h x (aB _ K)).trans ?_;obtain⟨J,U,_⟩:=h m az;refine(A.f5 aI 3 none).trans ?_;refine A.trans ?_ (A.j5 (f:=G2) (x:=m) iN);unfold G2;rw[J,U];exact A.refl _
def Aq(Κ G Φ:Int)(kd:KJ Κ)(os:List D5)(h:(gU Φ os).length<=1000000)(cU:OA)(fH:Nat):MZ (Jz Κ G (gU Φ os) cU fH):=by
 have hm:=ti Φ os;refine⟨kd,h,by show id (-1);unfold id;omega,λm J=>?_,λm J=>?_,λm J p hp=>?_⟩
 .rw[(hm m J).1];exact aC _
 .rw[(hm m J).1];exact aC _
 .rw[(hm m J).1] at hp;cases hp
def FH(d:Int):∀(k:Int) (ls:List IL) (L:LH),A (Ρ gy ls::L) (Ρ G6 (IE d k ls)::L)
 | _,[],L=>A.drop.trans (A.a8 G6)
 | k,l::ls,L=>by
  have e1:IE d k (l::ls)=if l.m.d=d then⟨l,k,0,[],none,0⟩::IE d (k+1) ls else IE d (k+1) ls:=rfl
  have J:A (Ρ gy (l::ls)::L) (Ρ gy (l::ls)::Ρ G6 (IE d (k+1) ls)::L):=by
   refine(A.dup (eg eD).Mx).trans ?_;refine A.c7 ?_;exact(A.g9 λx K=>aB _ K).trans (FH d (k+1) ls L)
  rw[e1];split
  .refine J.trans ?_;refine(A.d8 (f:=gy) (x:=l) az).trans ?_;refine(A.c7 A.drop).trans ?_;refine(A.f5 (a0 .i64) 1 none).trans (A.swap.trans ?_);refine(A.g8 (eD l) (cA _ _ _ _)).trans ?_;exact A.j5 (f:=G6) (x:=⟨l,k,0,[],none,0⟩) nA
  .exact J.trans A.drop
noncomputable def fQ(d:Int)(m:IF)(G:Int)(N:eu)(S:Χ):Ja :=
 match dV N.Ζ m.F with
 | some p=>([⟨d,db m.F,E3 2 m.F 0 (dB (¬p.state=3))⟩],N,S)
 | none =>
  if IG S 2 G (fU (268435456+N.hl) (II d 0 m.Η))=true then([⟨d,db m.F,E3 2 m.F 0 true⟩],{ N with hl:=N.hl+1,Ζ:=fc N.Ζ m.F ⟨0,268435456+N.hl,II d 0 m.Η⟩ },Jo S 2 G (fU (268435456+N.hl) (II d 0 m.Η)))
  else([⟨d,db m.F,E3 2 m.F 0 false⟩],{ N with Ζ:=fc N.Ζ m.F ⟨3,268435456+N.hl,[]⟩ },S)
def A.l9{κ α:Type}{kv:κ->Value}{Β:α->Value}{b:Nat}{l l' : List (κ×α)}(h:LI Β l=LI Β l'){L:LH}:A (τ kv Β b l::L) (τ kv Β b l'::L):=λθ Α w s=>by
 obtain⟨es,r,J,U,h3,h4,h5,s2⟩:=Sat.Nu (L:=L++Α) s;refine Sat.c8 s2 ?_ ?_ h3 h4 h5
 .rw[J];have e:=congrArg (List.map λp:κ×Value=>(kv p.1,p.2)) h;unfold LI at e;rw[cO,cO] at e;exact e
 .rw[<-iU Β l',<-h,iU];exact U
def zR{l:List (Int×H7)}{k:Int}{a b:H7}(h:a.b=b.b):LI cg (fc l k a)=LI cg (fc l k b):=by
 rw[jE,jE];unfold cg;rw[h]
def Gp(d:Int)(ls:List IL):∀o∈(IE d 0 ls).map D5.m,o.state=0:=λo ho=>by
 obtain⟨v,J,rfl⟩:=IY ho;exact(qq d 0 ls v J).2.2.2.1
def BS(Φ:Int)(os:List D5)(o:D5):gU Φ (os++[o])=gU Φ os++I8 o.bB.m.fr Φ o.bB.m.am:=by
 unfold gU;rw[cZ,aR,cH,aJ]
attribute [local irreducible] Δ R GP Ο h2 GF GE O Ef A8 A CB GB V.Enters
abbrev yg:=Ux [.ev 10,.ev 11]
abbrev yf:=Uv [.ev 6,.ef 7]
abbrev vn:=Uv [.ev 6]
abbrev vm:=Uw [.ev 8,.ef 9,.ef 10,.ev 11]
abbrev vl:=Uw [.ef 8,.ef 9]
abbrev vk:List Im:=[.ev 0,.ev 1,.ev 2,.ev 4,.ef 3,.ef 5,.ef 6,.ev 7]
def QR{φ ψ:Prop}(k:ψ)(h:Hid ψ->φ:=by intro k;(repeat (first|refine aa ?_|intro sh|refine Δ.dr 114 1 yg ?_|refine Δ.dr 114 4 yf ?_|refine Δ.dr 114 10 vn ?_|refine Δ.dr 114 12 vm ?_|refine Δ.dr 114 19 vl ?_|refine Δ.dr 114 20 vk ?_));(repeat revert sh);exact Hid.out k):φ:=h ⟨k⟩
def si{L:LH}(nb lb:Nat)(d Q:Int)(n:E0)(S:Χ)(ζ:D4)(hS:J6 d ζ (gm S) S)(d2:0<=n.hl/\n.hl<=1000000)(ms G:Int)(c:Ko)(hc:Kp c.m)(hk:gm S+cy (II d 0 c.m.Η)<=2000) :
  Λ Ε 137 #[al nb,E ms,bh (dS c),E G] (ID c::a1 nb lb d Q n (aN lb S::L)) (kD nb lb d Q (fQ d c.m G n.m S) L):=by
 have a7:id c.F:=hc.num.2.1;refine Λ.bd ?_;simp only[a1,cw];refine Δ.c9 (dR (b:=n.mp)) λhn=>?_;have a6:c.m.F=c.F:=rfl;cases hg:List.lookup c.F n.Ζ with
 | some x =>
  have hl:dV n.m.Ζ c.F=some x.m:=by rw[eQ,hg];rfl
  have hr:fQ d c.m G n.m S=([⟨d,db c.F,E3 2 c.F 0 (dB (¬x.state=3))⟩],n.m,S):=by
   unfold fQ;rw[a6,hl];rfl
  refine Δ.υ (A.at (Μ:=ew F2 n.Ζ) (lI hn hg)) ?_;simp only[Ku,J2];refine QR ?_;intros;refine Ο.Js (O.a8 rfl rfl) ac ?_;rw[hg];dsimp only[Option.map,Option.getD,Option.isSome,cg];refine QR ?_;intros;refine Ο.cr (fE c.F) ?_;refine QR ?_;intros;refine Ο.υ (Y:=obj nb B2 [al lb,E d,E Q,E n.ω,E n.hl,.map (some n.mb),.map (some n.mp),.map (some n.mr)]::ID (Kq 2 c.F 0 (dB (¬x.state=3)))::(obj x.b JA [E x.state,E x.Φ,ae x.ad x.Η.length x.fe]::Υ cY 8 Jv x.ad x.fe x.Η::Ρ G6 x.Η::ew F2 (GO n.Ζ c.F) ::τ cu cc n.mb n.δ::ew F7 n.δ::τ cu cg n.mp n.Ζ::τ B7 bE n.mr (G8 n.C1)::aN lb S::L)) ((Nn (Κ:=2) (F:=c.F) (eZ:=0) (yes:=(dB (¬x.state=3)))).trans ag) ?_;refine Ο.ca (eC nb lb d Q n.ω n.hl n.mb n.mp n.mr (db c.F) (Kq 2 c.F 0 (dB (¬x.state=3))) (iH (Κ:=2) (eZ:=0) (by unfold id;omega) a7 (by unfold id;omega))) ?_;rintro _ _⟨y,rfl,Z,rfl⟩;simp only[cw];refine QR ?_;intros;rename_i r;rw[hr];refine KX.a8 aw ?_ ⟨some ⟨r,0,none⟩,1,[y],({ n with Ζ:=fc n.Ζ c.F x }:E0),rfl,by rw[aF,aY,Z];rfl,(ma n c.F x).trans (by rw[iJ hl (by show((LI H7.m n.Ζ).map (·.1)).Nodup;rw[iU];exact hn)]),rfl⟩;refine(A.at (Μ:=cV y) (A.d7 (f:=cV) ed)).trans ?_;refine(A.at (Μ:=obj r hy [E y.m.Ψ,E y.m.to,ae y.M (IQ y.m.ct).length y.cap]) (A.d9 (Β:=aV) (sz:=3) (D:=[y]) (n:=1) (by simp only[aR,cH,aJ];rfl) rfl (by intro x K;rfl) ac)).trans ?_;refine A.trans ?_ (A.c7 (A.c7 (iB hn hg x rfl)));simp only[Ku,J2,cw];exact ag
 | none =>
  have b5:dV n.m.Ζ c.F=none:=by rw[eQ,hg];rfl
  refine Δ.υ wM ?_;refine QR ?_;intros;refine Ο.Js (O.a8 rfl rfl) ac ?_;rw[hg];dsimp only[Option.map,Option.getD,Option.isSome];refine QR ?_;intros;rename_i b6 bp;refine Ο.I1 (Ef.f5 (Β:=cg) (⟨bp,0,(268435456+n.hl),[],none,0⟩:H7) rfl rfl rfl rfl) ?_;rintro _ _ rfl;refine QR ?_;intros;have d1:c.m.Η.length=c.Η.length:=ah _;have d0:=hc.Η;have b7:∀l∈c.Η,kC l.m:=λl hl=>hc.lg _ (Kg hl);refine Δ.loop (α:=Nat×OA×Nat×OA×Nat) (λg=>g.1<=c.Η.length) (λg=>[(0,al nb),(3,E G),(6,al b6),(9,al bp),(11,ae g.2.2.2.1 (gU (268435456+n.hl) (IE d 0 (c.Η.take g.1))).length g.2.2.2.2),(12,ae g.2.1 (IE d 0 (c.Η.take g.1)).length g.2.2.1),(45,ae c.ad c.Η.length c.fe),(46,E (c.Η.length:Int)),(47,E (g.1:Int))]) (λg=>Υ cY 8 Jv g.2.1 g.2.2.1 (IE d 0 (c.Η.take g.1))::Υ bJ 5 JD g.2.2.2.1 g.2.2.2.2 (gU (268435456+n.hl) (IE d 0 (c.Η.take g.1)))::ε aW 5 c.ad c.Η::Ρ gy c.Η::obj b6 Kb (dS c)::obj bp JA [E 0,E (268435456+n.hl),ae none 0 0]::obj nb B2 [al lb,E d,E Q,E n.ω,E n.hl,.map (some n.mb),.map (some n.mp),.map (some n.mr)]::τ cu cc n.mb n.δ::ew F7 n.δ::τ cu cg n.mp (fc n.Ζ c.F (⟨bp,0,(268435456+n.hl),[],none,0⟩:H7))::ew F2 n.Ζ::τ B7 bE n.mr (G8 n.C1)::aN lb S::L) (λg=>c.Η.length - g.1) (0,none,0,none,0) (aC _) aA ?_ ?_
  .dsimp only;rw[aU];refine(A.c8 bJ 5 JD).trans ((A.c8 cY 8 Jv).trans ?_);simp only[IE,gU,cH];exact ag
  rintro⟨i,ad,fe,cU,fH⟩ hi;dsimp only at hi ⊢;have b9:=vA d 0 (c.Η.take i);rw[aK] at b9;have b1:∀o∈(IE d 0 (c.Η.take i)),o.bB.m.am.length<=100:=λo ho=>(b7 _ (cl (qq d 0 _ o ho).1)).2.1;have c2:=tj (268435456+n.hl) (IE d 0 (c.Η.take i)) b1;by_cases b0:i<c.Η.length
  case neg =>
   have c5:c.Η.take i=c.Η:=aG B;rw[c5] at b9 c2 ⊢;have b8:(gU (268435456+n.hl) (IE d 0 c.Η)).map G0.m=fU (268435456+n.hl) (II d 0 c.m.Η):=by rw[zL,oD];rfl
   have c3:C2 (fU (268435456+n.hl) (II d 0 c.m.Η))=cy (II d 0 c.m.Η):=oG _ _ (by rw[show II d 0 c.m.Η=(IE d 0 c.Η).map D5.m from(oD d 0 c.Η).symm];exact Gp d c.Η);refine QR ?_;intros;refine R.υ (Y:=Υ bJ 5 JD cU fH (gU (268435456+n.hl) (IE d 0 c.Η))::Ρ G2 (gU (268435456+n.hl) (IE d 0 c.Η))::obj nb B2 [al lb,E d,E Q,E n.ω,E n.hl,.map (some n.mb),.map (some n.mp),.map (some n.mr)]::aN lb S::(Υ cY 8 Jv ad fe (IE d 0 c.Η)::Ρ gy c.Η::obj b6 Kb (dS c)::obj bp JA [E 0,E (268435456+n.hl),ae none 0 0]::τ cu cc n.mb n.δ::ew F7 n.δ::τ cu cg n.mp (fc n.Ζ c.F (⟨bp,0,(268435456+n.hl),[],none,0⟩:H7))::ew F2 n.Ζ::τ B7 bE n.mr (G8 n.C1)::L)) ((A.m7 _ (ti (268435456+n.hl) (IE d 0 c.Η))).trans ag) ?_;refine R.ca (iI nb lb d Q n.ω n.hl n.mb n.mp n.mr ζ (gm S) S hS 2 G (gU (268435456+n.hl) (IE d 0 c.Η)) cU fH (Aq _ _ _ (by unfold KJ;omega) _ B _ _) (by rw[b8,c3];exact hk)) ?_;rw[b8];rintro _ _⟨A7,C4,rfl,rfl⟩;simp only[cw];cases Kx:IG S 2 G (fU (268435456+n.hl) (II d 0 c.m.Η)) with
   | true =>
    have hr:fQ d c.m G n.m S=([⟨d,db c.F,E3 2 c.F 0 (dB (¬(0:Int)=3))⟩],{ n.m with hl:=n.m.hl+1,Ζ:=fc n.m.Ζ c.F ⟨0,(268435456+n.hl),II d 0 c.m.Η⟩ },Jo S 2 G (fU (268435456+n.hl) (II d 0 c.m.Η))):=by
     unfold fQ;rw[a6,b5];dsimp only;rw[μ (show IG S 2 G (fU (268435456+n.m.hl) (II d 0 c.m.Η))=true from Kx),bI (show ¬(0:Int)=3 by decide)];rfl
    refine QR ?_;intros;refine Ο.cr (fE c.F) ?_;refine QR ?_;intros;refine Ο.υ (Y:=obj nb B2 [al lb,E d,E Q,E n.ω,E (n.hl+1),.map (some n.mb),.map (some n.mp),.map (some n.mr)]::ID (Kq 2 c.F 0 (dB (¬(0:Int)=3)))::(Υ cY 8 Jv ad fe (IE d 0 c.Η)::Ρ gy c.Η::obj bp JA [E 0,E (268435456+n.hl),ae ad (IE d 0 c.Η).length fe]::τ cu cc n.mb n.δ::ew F7 n.δ::τ cu cg n.mp (fc n.Ζ c.F (⟨bp,0,(268435456+n.hl),[],none,0⟩:H7))::ew F2 n.Ζ::τ B7 bE n.mr (G8 n.C1)::aN lb (Jo S 2 G (fU (268435456+n.hl) (II d 0 c.m.Η)))::L)) ((Nn (Κ:=2) (F:=c.F) (eZ:=0) (yes:=(dB (¬(0:Int)=3)))).trans ag) ?_;refine Ο.ca (eC nb lb d Q n.ω (n.hl+1) n.mb n.mp n.mr (db c.F) (Kq 2 c.F 0 (dB (¬(0:Int)=3))) (iH (Κ:=2) (eZ:=0) (by unfold id;omega) a7 (by unfold id;omega))) ?_;rintro _ _⟨y,rfl,Z,rfl⟩;simp only[cw];refine QR ?_;intros;rename_i r;rw[hr];refine KX.a8 aw ?_ ⟨some ⟨r,0,none⟩,1,[y],({ n with hl:=n.hl+1,Ζ:=fc n.Ζ c.F (⟨bp,0,(268435456+n.hl),IE d 0 c.Η,ad,fe⟩:H7) }:E0),rfl,by rw[aF,aY,Z];rfl,(ma { n with hl:=n.hl+1 } c.F (⟨bp,0,(268435456+n.hl),IE d 0 c.Η,ad,fe⟩:H7)).trans (by rw[show H7.m (⟨bp,0,(268435456+n.hl),IE d 0 c.Η,ad,fe⟩:H7)=⟨0,(268435456+n.hl),II d 0 c.m.Η⟩ by unfold H7.m;rw[oD];rfl];rfl),rfl⟩;refine(A.at (Μ:=cV y) (A.d7 (f:=cV) ed)).trans ?_;refine(A.at (Μ:=obj r hy [E y.m.Ψ,E y.m.to,ae y.M (IQ y.m.ct).length y.cap]) (A.d9 (Β:=aV) (sz:=3) (D:=[y]) (n:=1) (by simp only[aR,cH,aJ];rfl) rfl (by intro x K;rfl) ac)).trans ?_;refine(A.at (Μ:=Ρ gy c.Η) (FH d 0 c.Η _)).trans ?_;refine(A.at (Μ:=τ cu cg n.mp (fc n.Ζ c.F (⟨bp,0,(268435456+n.hl),[],none,0⟩:H7))) (A.l9 (zR (a:=(⟨bp,0,(268435456+n.hl),[],none,0⟩:H7)) (b:=(⟨bp,0,(268435456+n.hl),IE d 0 c.Η,ad,fe⟩:H7)) rfl))).trans ?_;refine A.trans ?_ (A.c7 (A.c7 (vF (n:={ n with hl:=n.hl+1 }) hn hg (⟨bp,0,(268435456+n.hl),IE d 0 c.Η,ad,fe⟩:H7))));simp only[Ku,J2,cw];exact ag
   | false =>
    have hr:fQ d c.m G n.m S=([⟨d,db c.F,E3 2 c.F 0 (dB (¬(3:Int)=3))⟩],{ n.m with Ζ:=fc n.m.Ζ c.F ⟨3,(268435456+n.hl),[]⟩ },S):=by
     unfold fQ;rw[a6,b5];dsimp only;rw[Ω (show ¬IG S 2 G (fU (268435456+n.m.hl) (II d 0 c.m.Η))=true by rw[show IG S 2 G (fU (268435456+n.m.hl) (II d 0 c.m.Η))=false from Kx];exact em),bj (show ¬ ¬(3:Int)=3 by decide)];rfl
    have c4:=lA Kx;rw[c4];refine QR ?_;intros;refine Ο.cr (fE c.F) ?_;refine QR ?_;intros;refine Ο.υ (Y:=obj nb B2 [al lb,E d,E Q,E n.ω,E n.hl,.map (some n.mb),.map (some n.mp),.map (some n.mr)]::ID (Kq 2 c.F 0 (dB (¬(3:Int)=3)))::(obj bp JA [E 3,E (268435456+n.hl),ae none 0 0]::τ cu cc n.mb n.δ::ew F7 n.δ::τ cu cg n.mp (fc n.Ζ c.F (⟨bp,0,(268435456+n.hl),[],none,0⟩:H7))::ew F2 n.Ζ::τ B7 bE n.mr (G8 n.C1)::aN lb S::L)) ((Nn (Κ:=2) (F:=c.F) (eZ:=0) (yes:=(dB (¬(3:Int)=3)))).trans ag) ?_;refine Ο.ca (eC nb lb d Q n.ω n.hl n.mb n.mp n.mr (db c.F) (Kq 2 c.F 0 (dB (¬(3:Int)=3))) (iH (Κ:=2) (eZ:=0) (by unfold id;omega) a7 (by unfold id;omega))) ?_;rintro _ _⟨y,rfl,Z,rfl⟩;simp only[cw];refine QR ?_;intros;rename_i r;rw[hr];refine KX.a8 aw ?_ ⟨some ⟨r,0,none⟩,1,[y],({ n with Ζ:=fc n.Ζ c.F (⟨bp,3,(268435456+n.hl),[],none,0⟩:H7) }:E0),rfl,by rw[aF,aY,Z];rfl,ma n c.F (⟨bp,3,(268435456+n.hl),[],none,0⟩:H7),rfl⟩;refine(A.at (Μ:=cV y) (A.d7 (f:=cV) ed)).trans ?_;refine(A.at (Μ:=obj r hy [E y.m.Ψ,E y.m.to,ae y.M (IQ y.m.ct).length y.cap]) (A.d9 (Β:=aV) (sz:=3) (D:=[y]) (n:=1) (by simp only[aR,cH,aJ];rfl) rfl (by intro x K;rfl) ac)).trans ?_;refine(A.c8 cY 8 Jv).trans ((A.a8 G6).trans ?_);refine(A.at (Μ:=τ cu cg n.mp (fc n.Ζ c.F (⟨bp,0,(268435456+n.hl),[],none,0⟩:H7))) (A.l9 (zR (a:=(⟨bp,0,(268435456+n.hl),[],none,0⟩:H7)) (b:=(⟨bp,3,(268435456+n.hl),[],none,0⟩:H7)) rfl))).trans ?_;refine A.trans ?_ (A.c7 (A.c7 (vF hn hg (⟨bp,3,(268435456+n.hl),[],none,0⟩:H7))));simp only[Ku,J2,cw];exact ag
  have a9:(i:Int).toNat=i:=B;have a3:c.Η[i]!∈c.Η:=by rw[C5 b0];exact cG b0
  have c1:c.Η[i]!.m.am.length<=100:=(b7 _ a3).2.1;have I:=CT d c.Η b0;refine Δ.υ (A.at (Μ:=Ρ gy c.Η) (A.d8 (f:=gy) a3)) ?_;by_cases J:c.Η[(i:Int).toNat]!.m.d=d
  .have a2:=J;rw[a9] at a2;rw[μ a2] at I;refine QR ?_;intros;rw[a9];refine R.ef (Ef.a8 (Β:=cY) (e:=(⟨c.Η[i]!,(i:Int),0,[],none,0⟩:D5)) rfl rfl rfl rfl rfl aS (DI _) B B) ac ?_;rintro _ _⟨b3,a4,rfl,rfl⟩;refine QR ?_;intros;refine Ο.ca (iL c.Η[i]!.M _ _ c.Η[i]!.m.am rfl B c.Η[i]!.m.fr (268435456+n.hl)) ?_;rintro _ _⟨c6,c0,rfl,rfl⟩;refine QR ?_;intros;have d3:(I8 c.Η[i]!.m.fr (268435456+n.hl) c.Η[i]!.m.am).length<=100:=by unfold I8;rw[ah];exact c1
   refine Ο.ef (Ef.c9 (Β:=bJ) (ys:=I8 c.Η[i]!.m.fr (268435456+n.hl) c.Η[i]!.m.am) rfl rfl rfl rfl rfl (λe _=>jY e) B B) ac ?_;rintro _ _⟨b4,a5,rfl,rfl⟩;refine QR ?_;intros;have b2:=BS (268435456+n.hl) (IE d 0 (c.Η.take i)) (⟨c.Η[i]!,(i:Int),0,[],none,0⟩:D5);dsimp only at b2;refine⟨(i+1,b3,a4,b4,a5),by dsimp only;omega,by dsimp only;omega,?_,?_⟩
   .dsimp only;rw[I,b2,bC i];exact aA
   .dsimp only;rw[I,b2];exact ag
  .have a2:=J;rw[a9] at a2;rw[Ω a2,aJ] at I;refine QR ?_;intros;refine⟨(i+1,ad,fe,cU,fH),by dsimp only;omega,by dsimp only;omega,?_,?_⟩
   .dsimp only;rw[I,bC i];exact aA
   .dsimp only;rw[I];exact ag
