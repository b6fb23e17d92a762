/- Lemmas. -/
import Derived.Test.YtlgpgjdggilkgaaGreatDoorEtbc
set_option linter.all false
set_option maxHeartbeats 8000000
namespace Go.Proofs.YtlgpgjdggilkgaaGreatDoor
section
open Go.V
def gx(d:Int)(l:List eU):Nat:=(l.map (cost d)).sum
def Fi(d:Int)(l:List eU):∀i,gx d (l.take i)<=gx d l:=λi=>by
 have h:=congrArg (λl:List eU=>(l.map (cost d)).sum) (cK i l);simp only[aQ,dG] at h;unfold gx;omega
def Fj(d:Int)(l:List eU){i:Nat}(h:i<l.length):gx d (l.take (i+1))=gx d (l.take i)+cost d l[i]!:=by
 unfold gx;rw[aB h,aQ,dG,D7 h];simp only[aq,bz,aS,List.sum_nil,dx]
def nt{π:B0}{d E:Int}{Μ:Nat}:∀(l:List eU) (N:υ) (S:Ρ) (b:Nat),b<=2000->(∀m∈l,Rl d Μ m)->NG π d N S->dg S+F0 N+gx d l<=b->NG π d (bS (bJ d E Μ) l N S).2.1 (bS (bJ d E Μ) l N S).2.2/\dg (bS (bJ d E Μ) l N S).2.2+F0 (bS (bJ d E Μ) l N S).2.1<=b/\(∀y∈(bS (bJ d E Μ) l N S).1,Out d y)/\(bS (bJ d E Μ) l N S).1.length<=(l.map λm=>Qg m.ct.Δ).sum
 | [],N,S,b,_,_,hN,hb=>⟨hN,by have:gx d []=0:=rfl;show dg S+F0 N<=b;omega,λy Y=>hD Y aG,an _⟩
 | m::l,N,S,b,ZB,hP,hN,hb=>by
  have e:gx d (m::l)=cost d m+gx d l:=by unfold gx;rw[aq,aS]
  rw[e] at hb;obtain⟨K,T,h3,h4⟩:=pG (E:=E) (b:=dg S+F0 N+cost d m) D Μ m N S (hP m aA) hN (an _);obtain⟨i1,i2,i3,i4⟩:=nt (E:=E) l (bJ d E Μ m N S).2.1 (bJ d E Μ m N S).2.2 b ZB (λx O=>hP x (az _ O)) K D;simp only[bS];refine⟨i1,i2,λy Y=>?_,?_⟩
  .rcases J8 Y with Y|Y
   .exact h3 y Y
   .exact i3 y Y
  .rw[ay,aq,aS];omega
noncomputable def L9(d E:Int)(l:List eU)(N:υ)(S:Ρ):L8:=bS (bJ d E 7) l N S
attribute [local irreducible] Α GO GP δ ms GF GE Ev Ef C0 F CB GB V.Enters bJ
def nC{L:Η}(nb lb:Nat)(d G:Int)(n:G0)(S:Ρ)(π:B0)(b:Nat)(b8:b<=2000)(E:Int)(ad:OA)(cap:Nat)(Q:List OD)(hP:∀m∈Q,Rl d 7 m.m)(hN:NG π d n.m S)(hb:dg S+F0 n.m+gx d (Q.map (·.m))<=b)(c6:Q.length<=1000000)(b1:(L9 d E (Q.map (·.m)) n.m S).1.length<=1000000) :
  Τ Θ 86 #[av nb,ah ad Q.length cap,J E] (Ω bq 3 B1 ad cap Q::Ψ gM Q::eu nb lb d G n (aU lb S::L)) (lS nb lb d G (L9 d E (Q.map (·.m)) n.m S) L):=by
 refine Τ.bd ?_;refine Nd ?_;intros;rename_i bn bt br bp;unfold L9 at b1 ⊢;have c4:(Q.map (·.m)).length=Q.length:=al _
 have b6:∀m∈Q.map (·.m),Rl d 7 m:=λm hm=>by
  obtain⟨x,O,rfl⟩:=H9 hm;exact hP x O
 refine Α.loop (α:=Nat×G0×OA×Nat×List OD) (λg=>g.1<=Q.length/\g.2.1.m=(bS (bJ d E 7) ((Q.map (·.m)).take g.1) n.m S).2.1/\g.2.2.2.2.map (·.m)=(bS (bJ d E 7) ((Q.map (·.m)).take g.1) n.m S).1) (λg=>[(7,av br),(8,av bp),(12,ah ad Q.length cap),(13,J (Q.length:Int)),(14,J (g.1:Int))]) (λg=>Rz bn br bt bp nb E g.2.2.1 g.2.2.2.2.length g.2.2.2.1 (Ω bq 3 B1 g.2.2.1 g.2.2.2.1 g.2.2.2.2::Ψ gM g.2.2.2.2::Ω bq 3 B1 ad cap Q::Ψ gM Q::eu nb lb d G g.2.1 (aU lb (bS (bJ d E 7) ((Q.map (·.m)).take g.1) n.m S).2.2::L))) (λg=>Q.length - g.1) (0,n,none,0,[]) ⟨aC _,by rw[bj];rfl,by rw[bj];rfl⟩ aD ?_ ?_
 .dsimp only;rw[bj];refine(F.c8 bq 3 B1).trans ((F.a8 gM).trans ?_);simp only[Rz,eu,gL,bS,bu];exact ak
 rintro⟨i,n2,a2,B,a4⟩ ⟨hi,a3,M⟩;dsimp only at hi a3 M ⊢;simp only[Rz];by_cases b2:i<Q.length
 case neg =>
  have c2:(Q.map (·.m)).take i=Q.map (·.m):=aM D;rw[c2] at a3 M ⊢;refine Nd ?_;intros;refine KX.a8 aF ?_ ⟨a2,B,a4,n2,rfl,M,a3,rfl⟩;simp only[eu,gL];exact ak
 have c0:(i:Int).toNat=i:=D;have a5:Q[i]!∈Q:=by rw[D7 b2];exact cX b2
 have b4:(Q.map (·.m))[i]! = Q[i]!.m:=eJ (f:=λx:OD=>x.m) b2;have b9:=Fj d (Q.map (·.m)) (i:=i) D;have c5:=Fi d (Q.map (·.m)) (i+1);rw[b4] at b9;obtain⟨f1,f2,f3,f4⟩:=nt (E:=E) (Μ:=7) ((Q.map (·.m)).take i) n.m S (dg S+F0 n.m+gx d ((Q.map (·.m)).take i)) D (λm hm=>b6 m (cp hm)) hN (an _);have a7:=pU (bJ d E 7) (Q.map (·.m)) n.m S (i:=i) D;rw[b4] at a7;have b0:=tB (bJ d E 7) (Q.map (·.m)) n.m S (i+1)
 have c1:a4.length+(bJ d E 7 Q[i]!.m n2.m (bS (bJ d E 7) ((Q.map (·.m)).take i) n.m S).2.2).1.length<=1000000:=by
  have e1:=congrArg List.length M;rw[al] at e1;rw[a7] at b0;dsimp only at b0;rw[ay] at b0;rw[a3];omega
 refine Α.cL (F.at (Ο:=Ψ gM Q) (F.d8 (f:=gM) a5)) ?_;refine Nd ?_;intros;rename_i b7;rw[c0];refine GO.cL (Γ:=Rz bn br bt bp nb E a2 a4.length B (Ω bq 3 B1 a2 B a4::Ψ gM a4::gM Q[i]!::eu nb lb d G n2 (aU lb (bS (bJ d E 7) ((Q.map (·.m)).take i) n.m S).2.2::(Ω bq 3 B1 ad cap Q::Ψ gM Q::L)))) (by simp only[Rz,eu,gL];exact ak) ?_;refine GO.ef (Ef.c7 (first:=[]) (cap:=[av bn,av br,av bt,av bp]) (vs:=[bF (bq Q[i]!)]) (wg nb lb d G π b b8 E bn br bt bp 7 (Ω bq 3 B1 ad cap Q::Ψ gM Q::L) n2 (bS (bJ d E 7) ((Q.map (·.m)).take i) n.m S).2.2 Q[i]! a2 B a4 (hP _ a5) (by rw[a3];exact f1) (by rw[a3];omega) c1) rfl rfl) ae ?_;rintro _ _⟨b3,a9,c3,n3,a6,b5,rfl⟩;rw[a3] at a6 b5;simp only[Rz];refine Nd ?_;intros;refine⟨(i+1,n3,b3,a9,c3),⟨by dsimp only;omega,by dsimp only;rw[b5,a7],by dsimp only;rw[a6,M,a7]⟩,by dsimp only;omega,?_,?_⟩
 .dsimp only;rw[bC i];exact aD
 .dsimp only;rw[a7,a3];simp only[Rz,eu,gL];exact ak
end
section
open Go.V
noncomputable def dO(d G:Int)(x:eU)(E:Int)(N:υ)(S:Ρ):L8 :=
 if x.to=d/\(0<=x.Λ/\x.Λ<G)/\x.Λ≠d then L9 d E (be d x.Λ x.ct E N S).1 (be d x.Λ x.ct E N S).2.1 (be d x.Λ x.ct E N S).2.2 else([],N,S)
def Lp(m:G3):0<(Pc m).length:=by
 unfold Pc;simp only[ay,aK,bu];omega
def yg{π:B0}{d Λ E:Int}{m:G3}{N:υ}{S:Ρ}(hN:NG π d N S)(hm:O7 m)(hb:dg S+F0 N+2*NN m.Z<=2000)(hk:0<=m.Δ):((∀y∈(be d Λ m E N S).1,Rl d 7 y/\cost d y=0)/\NG π d (be d Λ m E N S).2.1 (be d Λ m E N S).2.2/\dg (be d Λ m E N S).2.2+F0 (be d Λ m E N S).2.1<=dg S+F0 N+2*NN m.Z)/\(L9 d E (be d Λ m E N S).1 (be d Λ m E N S).2.1 (be d Λ m E N S).2.2).1.length<=3300/\(be d Λ m E N S).1.length<=3300:=by
 obtain⟨K,T,h3⟩:=th (E0:=Λ) (E:=E) hN hm (an _) hb;have U:=qR (E0:=Λ) (E:=E) (m:=m) hN
 have hp:∀y∈(be d Λ m E N S).1,Rl d 7 y/\cost d y=0:=λy Y=>by
  have hs:=h3 y Y;have h4:=hs.Δ;refine⟨⟨hs.ct,by decide,λ_=>D⟩,?_⟩;unfold cost;split
  .rename_i q;rw[hs.jC q];rfl
  .rfl
 refine⟨⟨hp,K,T⟩,?_,aO (Nat.le_mul_of_pos_right _ (vK (m.Δ+1))) (aO U (re _))⟩
 obtain⟨_,_,_,i4⟩:=rJ (π:=π) (d:=d) (f:=bJ d E 7) (b:=dg S+F0 N+2*NN m.Z) (C:=Qg (m.Δ+1)) (λy=>R5 d m.Δ y/\Rl d 7 y/\cost d y=0) (λy N' S' Y B M=>by
  obtain⟨q1,q2,q3,q4⟩:=pG (E:=E) hb 7 y N' S' Y.2.1 B (by rw[Y.2.2];exact M);exact⟨q1,q2,q3,aO q4 (tG Y.1.Δ)⟩) _ _ _ (λy Y=>⟨h3 y Y,hp y Y⟩) K T
 exact aO i4 (aO U (re _))
theorem kf{d:Int}:∀{l:List eU},(∀y∈l,cost d y=0)->gx d l=0
 | [],_=>rfl
 | y::l,h=>by
  have e:gx d (y::l)=cost d y+gx d l:=by unfold gx;rw[aq,aS]
  rw[e,h y aA,kf λx O=>h x (az _ O)]
attribute [local irreducible] Α GO GP δ ms GF GE Ev Ef C0 F CB GB V.Enters bJ
def qM{L:Η}(nb lb:Nat)(d G μ U:Int)(mb mp mr:Nat)(k:Int):Τ Θ 85 #[av nb,J k] (obj nb C4 (gL lb d G μ U mb mp mr)::L) (F3 (.bool (dB (0<=k/\k<G))) (obj nb C4 (gL lb d G μ U mb mp mr)::L)):=by
 refine Τ.bd ?_;simp only[gL];by_cases h0:0<=k
 .by_cases K:k<G
  .rw[bN ⟨h0,K⟩];refine Nd ?_;intros;refine KX.a8 aF (F.refl _) ⟨?_,rfl⟩;exact congrArg Value.bool (bN K)
  .rw[bB (λq=>K q.2)];refine Nd ?_;intros;refine KX.a8 aF (F.refl _) ⟨?_,rfl⟩;exact congrArg Value.bool (bB K)
 .rw[bB (λq=>h0 q.1)];refine Nd ?_;intros;exact KX.en ⟨rfl,rfl⟩
abbrev El:=Zc [.ev 10,.ef 11,.ev 12,.ev 13,.ev 14,.ev 15,.ev 16,.ev 17,.ev 18,.ev 19,.ev 20,.ev 21,.ev 22,.ev 23,.ev 24,.ev 25,.ev 26,.ev 27,.ev 28]
def Wf{φ ψ:Prop}(k:ψ)(h:Hid ψ->φ:=by intro k;(repeat (first|refine ab ?_|intro B6|refine Α.dr 43 1 El ?_));(repeat revert B6);exact Hid.out k):φ:=h ⟨k⟩
def qC{L:Η}(nb lb:Nat)(d G:Int)(n:G0)(S:Ρ)(π:B0)(x:OD)(M:O7 x.m.ct)(a5:0<=x.m.ct.Δ)(hN:NG π d n.m S)(hk:dg S+F0 n.m+2*NN x.m.ct.Z<=2000)(E:Int) :
  Τ Θ 38 #[av nb,bF (bq x),J E] (gM x::eu nb lb d G n (aU lb S::L)) (lS nb lb d G (dO d G x.m E n.m S) L):=by
 have a6:=Lp x.m.ct;refine Τ.bd ?_;simp only[eu,gL];by_cases ht:x.m.to=d
 case neg =>
  have hr:dO d G x.m E n.m S=([],n.m,S):=Ν λq=>ht q.1;rw[hr];refine Wf ?_;intros;refine KX.a8 aF ?_ ⟨none,0,[],n,rfl,rfl,rfl,rfl⟩;refine(F.c8 bq 3 B1).trans ((F.a8 gM).trans ?_);simp only[eu,gL];exact ak
 refine Wf ?_;intros;rename_i b4;refine δ.cL (Γ:=obj nb C4 [av lb,J d,J G,J n.μ,J n.U,.map (some n.mb),.map (some n.mp),.map (some n.mr)]::(obj b4 B1 (bq x)::gM x::cS gm cy n.mb n.Φ::ey I4 n.Φ::cS gm cC n.mp n.Β::ey H6 n.Β::cS D5 bL n.mr (J6 n.sh)::aU lb S::L)) ak ?_;refine δ.cr (qM nb lb d G n.μ n.U n.mb n.mp n.mr x.m.Λ) ?_;simp only[gL];by_cases B:0<=x.m.Λ/\x.m.Λ<G
 case neg =>
  have hr:dO d G x.m E n.m S=([],n.m,S):=Ν λq=>B q.2.1;rw[bB B];refine Wf ?_;intros;rw[hr];refine KX.a8 aF ?_ ⟨none,0,[],n,rfl,rfl,rfl,rfl⟩;refine(F.c8 bq 3 B1).trans ((F.a8 gM).trans ?_);simp only[eu,gL];exact ak
 rw[bN B];by_cases a2:x.m.Λ=d
 .have hr:dO d G x.m E n.m S=([],n.m,S):=Ν λq=>q.2.2 a2;refine Wf ?_;intros;rw[hr];refine KX.a8 aF ?_ ⟨none,0,[],n,rfl,rfl,rfl,rfl⟩;refine(F.c8 bq 3 B1).trans ((F.a8 gM).trans ?_);simp only[eu,gL];exact ak
 have hr:dO d G x.m E n.m S=L9 d E (be d x.m.Λ x.m.ct E n.m S).1 (be d x.m.Λ x.m.ct E n.m S).2.1 (be d x.m.Λ x.m.ct E n.m S).2.2:=Χ ⟨ht,B,a2⟩;obtain⟨⟨r1,r2,r3⟩,r4,r5⟩:=yg (Λ:=x.m.Λ) (E:=E) hN M hk a5;refine Wf ?_;intros;refine GO.cL (Γ:=gM x::eu nb lb d G n (aU lb S::L)) (by simp only[eu,gL];exact ak) ?_;refine GO.ca (sj nb lb d G n S π x M hN hk E) ?_;rintro _ _⟨ad,cap,Q,n1,rfl,a3,a4,rfl⟩;rw[<-a3,<-a4] at hr r4;rw[<-a3] at r1 r5;rw[<-a4] at r2 r3;rw[hr];generalize (be d x.m.Λ x.m.ct E n.m S).2.2=S1 at *;have hP:∀y∈Q,Rl d 7 y.m:=λy Y=>(r1 _ (PB Y)).1;have hz:gx d (Q.map (·.m))=0:=kf λy Y=>(r1 y Y).2;rw[al] at r5;refine Wf ?_;intros;refine GO.ef (Ef.d8 (vs:=[av nb,ah ad Q.length cap,J E]) (nC (L:=L) nb lb d G n1 S1 π 2000 (an _) E ad cap Q hP r2 D D D) rfl) ae ?_;intro v Γ hv;refine Wf ?_;intros;refine KX.a8 aF (F.refl _) ?_;exact hv
end
section
open Go.V
def cD(d A:Int)(x:K6)(E:Int):List eU×K6 :=
 if x.dec=true then(ck d x.iM x.told (C9 3 A 0 x.F7),x)
 else if x.C6<E then(ck d x.iM [] (C9 3 A 0 false),x.RY false)
 else(ck d x.iM x.I8 ⟨1,A,0,false,x.Z,[]⟩,x)
def FV{A:Int}{x:Ow}{L:Η}:F (ξ aZ 5 x.bG x.Z::Ψ iJ x.Z::L) (M9 ⟨1,A,0,false,x.Z,x.bG,x.hx,[],none,0⟩::ξ aZ 5 x.bG x.Z::Ψ iJ x.Z::L):=by
 refine(F.dup (cQ _ _ _ _).RQ).trans ?_;refine F.trans (fG:=Ψ iJ x.Z::ξ aZ 5 x.bG x.Z::ξ aZ 5 x.bG x.Z::L) ak ?_;refine(F.dup (fi fB).RQ).trans ?_;refine(F.f5 (dJ .i64) 1 none).trans ?_;refine F.trans (fG:=Ψ iJ x.Z::ξ (dJ .i64) 1 none []::Ψ iJ x.Z::ξ aZ 5 x.bG x.Z::ξ aZ 5 x.bG x.Z::L) ak ?_;refine(F.f9 (fi fB) (cQ _ _ _ _)).trans ?_;refine F.trans (fG:=ξ aZ 5 x.bG x.Z::SC (Ψ iJ x.Z) (ξ (dJ .i64) 1 none [])::ξ aZ 5 x.bG x.Z::Ψ iJ x.Z::L) ak ?_;exact F.f9 (cQ _ _ _ _) (Om.and (fi fB) (cQ _ _ _ _))
attribute [local irreducible] Α GO GP δ ms GF GE Ev Ef C0 F CB GB V.Enters bJ
def IJ{L:Η}(lb:Nat)(d G:Int)(h0:0<=d)(K:d<G)(T:G<=12) :
  Τ Θ 49 #[av lb,J d,J G] L (λv Γ=>∃nb mb mp mr,v=.tuple #[av nb,J 0]/\Γ = eu nb lb d G ⟨mb,mp,mr,0,0,[],[],[]⟩ L):=by
 have e1:¬G<1:=D;have e2:¬G>12:=D;have e3:¬d<0:=D;have e4:¬d >= G:=D;refine Τ.bd ?_;refine Nd ?_;intros;refine GO.ef (Ef.c8 gm cy (.inl rfl)) ae ?_;rintro _ _⟨mb,rfl,rfl⟩;refine GO.ef (Ef.c8 gm cC (.inl rfl)) ae ?_;rintro _ _⟨mp,rfl,rfl⟩;refine GO.ef (Ef.c8 D5 bL (.inl rfl)) ae ?_;rintro _ _⟨mr,rfl,rfl⟩;refine Nd ?_;intros;rename_i nb;refine KX.a8 aF ?_ ⟨nb,mb,mp,mr,rfl,rfl⟩;simp only[eu,gL];refine(F.j5 I4).trans ((F.j5 H6).trans ?_);rw[show J6 []=[] from rfl];exact ak
abbrev Ek:=Zc [.ev 10,.ev 11,.ef 12,.ev 13]
abbrev Ej:=Zc [.ev 10,.ev 11,.ef 12,.ev 13]
def Wn{φ ψ:Prop}(k:ψ)(h:Hid ψ->φ:=by intro k;(repeat (first|refine ab ?_|intro B6|refine Α.dr 51 2 Ek ?_|refine Α.dr 51 5 Ej ?_));(repeat revert B6);exact Hid.out k):φ:=h ⟨k⟩
def FC{L:Η}(nb lb:Nat)(d G μ U:Int)(mb mp mr:Nat)(A:Int)(a4:vi A)(x:Ow)(O:WM x.m)(E:Int) :
  Τ Θ 96 #[av nb,J A,.pointer (some ⟨x.b,0,none⟩),J E] (obj nb C4 (gL lb d G μ U mb mp mr)::OJ x L) (λv Γ=>∃ad cap Q y,v=ah ad Q.length cap/\y.b=x.b/\(Q.map (·.m),y.m)=cD d A x.m E/\Γ = Ω bq 3 B1 ad cap Q::Ψ gM Q::obj nb C4 (gL lb d G μ U mb mp mr)::OJ y L):=by
 have a3:x.iM.length<=100:=O.gl;refine Τ.bd ?_;simp only[gL,OJ,NW];cases hd:x.dec with
 | true =>
  have hr:cD d A x.m E=(ck d x.iM x.told (O8 3 A 0 x.F7).m,x.m):=by
   unfold cD;rw[Χ (show x.m.dec=true from hd)];rfl
  have B:=mA (L:=cS gm bL x.mt (NA x.told)::cS gm bL x.mv (NA x.I8)::ξ aZ 5 x.bG x.Z::Ψ iJ x.Z::L) nb lb d G μ U mb mp mr x a3 (O8 3 A 0 x.F7) (jw (Δ:=3) (ω:=0) (by unfold vi;omega) a4 (by unfold vi;omega)) (some x.mt) x.told (.inr ⟨x.mt,_,rfl,rfl⟩);simp only[NW,hd] at B;refine Wn ?_;intros;refine δ.cL (Γ:=obj nb C4 [av lb,J d,J G,J μ,J U,.map (some mb),.map (some mp),.map (some mr)]::M9 (O8 3 A 0 x.F7)::obj x.b PI [ah x.bG x.Z.length x.hx,ah x.G4 x.iM.length x.M3,J x.C6,.map (some x.mv),.map (some x.mt),.bool true,.bool x.F7]::ξ (dJ .i64) 1 x.G4 x.iM::(cS gm bL x.mt (NA x.told)::cS gm bL x.mv (NA x.I8)::ξ aZ 5 x.bG x.Z::Ψ iJ x.Z::L)) ((SK (Δ:=3) (A:=A) (ω:=0) (yes:=x.F7)).trans ak) ?_;refine δ.ca (B) ?_;rintro _ _⟨ad,cap,Q,rfl,a2,rfl⟩;simp only[gL];refine Wn ?_;intros;refine KX.a8 aF ?_ ⟨ad,cap,Q,x,rfl,rfl,by rw[a2,hr],rfl⟩;simp only[OJ,NW,hd];exact ak
 | false =>
  by_cases hu:x.C6<E
  .have a5 : E>x.C6:=hu
   have hr:cD d A x.m E=(ck d x.iM [] (C9 3 A 0 false),x.m.RY false):=by
    unfold cD;rw[Ν (by rw[show x.m.dec=false from hd];exact fo),Χ (show x.m.C6<E from hu)];rfl
   have M:=sB (L:=cS gm bL x.mt (NA x.told)::cS gm bL x.mv (NA x.I8)::ξ aZ 5 x.bG x.Z::Ψ iJ x.Z::L) nb lb d G μ U mb mp mr A a4 x a3 false;simp only[NW,hd] at M;refine Wn ?_;intros;refine GO.cL (Γ:=obj nb C4 [av lb,J d,J G,J μ,J U,.map (some mb),.map (some mp),.map (some mr)]::obj x.b PI [ah x.bG x.Z.length x.hx,ah x.G4 x.iM.length x.M3,J x.C6,.map (some x.mv),.map (some x.mt),.bool false,.bool x.F7]::ξ (dJ .i64) 1 x.G4 x.iM::(cS gm bL x.mt (NA x.told)::cS gm bL x.mv (NA x.I8)::ξ aZ 5 x.bG x.Z::Ψ iJ x.Z::L)) ak ?_;refine GO.ca (M) ?_;rintro _ _⟨ad,cap,Q,rfl,a2,rfl⟩;simp only[gL];refine Wn ?_;intros;refine KX.a8 aF ?_ ⟨ad,cap,Q,{ x with dec:=true,F7:=false },rfl,rfl,by rw[a2,hr];rfl,rfl⟩;simp only[OJ,NW];exact ak
  .have a5 : ¬E>x.C6:=hu
   have hr:cD d A x.m E=(ck d x.iM x.I8 (⟨1,A,0,false,x.Z,x.bG,x.hx,[],none,0⟩:O6).m,x.m):=by
    unfold cD;rw[Ν (by rw[show x.m.dec=false from hd];exact fo),Ν (show ¬x.m.C6<E from hu)];rfl
   have B:=mA (L:=cS gm bL x.mv (NA x.I8)::cS gm bL x.mt (NA x.told)::ξ aZ 5 x.bG x.Z::Ψ iJ x.Z::L) nb lb d G μ U mb mp mr x a3 (⟨1,A,0,false,x.Z,x.bG,x.hx,[],none,0⟩:O6) ⟨⟨by unfold vi;dsimp only[O6.m];omega,a4,by unfold vi;dsimp only[O6.m];omega⟩,O.Z,O.lg,aC _,λ_ h=>hD h aG⟩ (some x.mv) x.I8 (.inr ⟨x.mv,_,rfl,rfl⟩);simp only[NW,hd] at B;refine Wn ?_;intros;refine δ.cL (Γ:=obj nb C4 [av lb,J d,J G,J μ,J U,.map (some mb),.map (some mp),.map (some mr)]::M9 (⟨1,A,0,false,x.Z,x.bG,x.hx,[],none,0⟩:O6)::obj x.b PI [ah x.bG x.Z.length x.hx,ah x.G4 x.iM.length x.M3,J x.C6,.map (some x.mv),.map (some x.mt),.bool false,.bool x.F7]::ξ (dJ .i64) 1 x.G4 x.iM::(cS gm bL x.mv (NA x.I8)::cS gm bL x.mt (NA x.told)::ξ aZ 5 x.bG x.Z::Ψ iJ x.Z::L)) (F.trans (fG:=ξ aZ 5 x.bG x.Z::Ψ iJ x.Z::obj nb C4 [av lb,J d,J G,J μ,J U,.map (some mb),.map (some mp),.map (some mr)]::obj x.b PI [ah x.bG x.Z.length x.hx,ah x.G4 x.iM.length x.M3,J x.C6,.map (some x.mv),.map (some x.mt),.bool false,.bool x.F7]::ξ (dJ .i64) 1 x.G4 x.iM::cS gm bL x.mv (NA x.I8)::cS gm bL x.mt (NA x.told)::L) ak ((FV (A:=A) (x:=x)).trans ak)) ?_;refine δ.ca (B) ?_;rintro _ _⟨ad,cap,Q,rfl,a2,rfl⟩;simp only[gL];refine Wn ?_;intros;refine KX.a8 aF ?_ ⟨ad,cap,Q,x,rfl,rfl,by rw[a2,hr],rfl⟩;simp only[OJ,NW,hd];exact ak
end
section
open Go.V
def fU(N:υ)(A:Int):Int:=match ζ N.Φ A with
 | some x=>if x.dec=false then 1 else if x.F7=true then 2 else 3
 | none=>match ζ N.Β A with
  | some p=>if p.state=0 then 1 else if p.state=1 then 2 else 3
  | none=>if A∈N.sh.map (·.1) then 2 else 0
attribute [local irreducible] Α GO GP δ ms GF GE Ev Ef C0 F CB GB V.Enters bJ
def lJ{L:Η}(nb lb:Nat)(d G:Int)(n:G0)(A:Int) :
  Τ Θ 23 #[av nb,J A] (eu nb lb d G n L) (F3 (J (fU n.m A)) (eu nb lb d G n L)):=by
 refine Τ.bd ?_;simp only[eu,gL];refine Α.c8 (eO (b:=n.mb)) λhn=>?_;refine Α.c8 (eO (b:=n.mp)) λhm=>?_;refine Α.c8 (eO (b:=n.mr)) λhr=>?_;cases hg:List.lookup A n.Φ with
 | some x =>
  have U:ζ n.m.Φ A=some x.m:=by rw[fW,hg];rfl
  have hs:fU n.m A=if x.dec=false then 1 else if x.F7=true then 2 else 3:=by unfold fU;rw[U];rfl
  have B:=kB (nb:=nb) (lb:=lb) (d:=d) (G:=G) (L:=L) hn hg x rfl;rw[iQ hg hn] at B;simp only[eu,gL,OJ,NW] at B;rw[hs];refine Α.cL (F.at (Ο:=ey I4 n.Φ) (qY hn hg)) ?_;simp only[OJ,NW];refine Nd ?_;intros;refine GO.ev (Ev.a8 rfl rfl) ae ?_;rw[hg];dsimp only[Option.map,Option.getD,Option.isSome,cy];cases hd:x.dec with
  | false =>
   rw[hd] at B;refine Nd ?_;intros;first|rw[show(!false)=true from rfl]|skip
   refine Nd ?_;intros;refine KX.a8 aF (F.trans ?_ B) ⟨rfl,rfl⟩;exact ak
  | true =>
   rw[hd] at B;cases ht:x.F7 with
   | false =>
    rw[ht] at B;refine Nd ?_;intros;refine KX.a8 aF (F.trans ?_ B) ⟨rfl,rfl⟩;exact ak
   | true =>
    rw[ht] at B;refine Nd ?_;intros;refine KX.a8 aF (F.trans ?_ B) ⟨rfl,rfl⟩;exact ak
 | none =>
  have U:ζ n.m.Φ A=none:=by rw[fW,hg];rfl
  cases hp:List.lookup A n.Β with
  | some p =>
   have a2:ζ n.m.Β A=some p.m:=by rw[fK,hp];rfl
   have hs:fU n.m A=if p.state=0 then 1 else if p.state=1 then 2 else 3:=by unfold fU;rw[U];dsimp only;rw[a2];rfl
   have B:=jp (nb:=nb) (lb:=lb) (d:=d) (G:=G) (L:=L) hm hp p rfl;rw[iQ hp hm] at B;simp only[eu,gL,Pe,OE] at B;rw[hs];refine Α.cL (F.at (Ο:=ey H6 n.Β) (nr hm hp)) ?_;simp only[Pe,OE];refine Nd ?_;intros;refine GO.ev (Ev.a8 rfl rfl) ae ?_;rw[hg];dsimp only[Option.map,Option.getD,Option.isSome];refine Nd ?_;intros;refine GO.ev (Ev.a8 rfl rfl) ae ?_;rw[hp];dsimp only[Option.map,Option.getD,Option.isSome,cC];by_cases h0:p.state=0
   .rw[Χ h0];refine Nd ?_;intros;refine KX.a8 aF (F.trans ?_ B) ⟨rfl,rfl⟩;exact ak
   .rw[Ν h0];by_cases K:p.state=1
    .rw[Χ K];refine Nd ?_;intros;refine KX.a8 aF (F.trans ?_ B) ⟨rfl,rfl⟩;exact ak
    .rw[Ν K];refine Nd ?_;intros;refine KX.a8 aF (F.trans ?_ B) ⟨rfl,rfl⟩;exact ak
  | none =>
   have a2:ζ n.m.Β A=none:=by rw[fK,hp];rfl
   have hs:fU n.m A=if A∈n.sh.map (·.1) then 2 else 0:=by unfold fU;rw[U];dsimp only;rw[a2];rfl
   refine Nd ?_;intros;refine GO.ev (Ev.a8 rfl rfl) ae ?_;rw[hg];dsimp only[Option.map,Option.getD,Option.isSome];refine Nd ?_;intros;refine GO.ev (Ev.a8 rfl rfl) ae ?_;rw[hp];dsimp only[Option.map,Option.getD,Option.isSome];refine Nd ?_;intros;refine GO.ef (Ef.g9 rfl) ae ?_;rintro _ _⟨r,rfl,rfl⟩;refine Nd ?_;intros;refine Α.loop (α:=List ((Int×Int)×Bool)) (λz=>z.length<=(J6 n.sh).length/\∀p∈z,p.1.1≠A) (λz=>[(1,J A),(53,av r)]) (λz=>fY D5 bL n.mr (J6 n.sh) r z::obj nb C4 [av lb,J d,J G,J n.μ,J n.U,.map (some n.mb),.map (some n.mp),.map (some n.mr)]::cS gm cy n.mb n.Φ::ey I4 n.Φ::cS gm cC n.mp n.Β::ey H6 n.Β::L) (λz=>(J6 n.sh).length - z.length) [] ⟨aC _,λp h=>hD h aG⟩ aD ak ?_;rintro z ⟨hz,a4⟩;refine Nd ?_;intros;refine GO.ef (Ef.j6 rfl) ae ?_;rintro _ _ (⟨rfl,rfl,a5⟩|⟨p,rfl,rfl,a6,a9,a7⟩)
   .have T:¬A∈n.sh.map (·.1):=λq=>by
     obtain⟨k,hk,M⟩:=H9 q;exact a4 (k,true) (a5.mem_iff.2 (List.mem_map.2 ⟨k,hk,rfl⟩)) M
    rw[hs,Ν T];refine Nd ?_;intros;refine KX.a8 aF ?_ ⟨rfl,rfl⟩;refine(F.at (Ο:=fY D5 bL n.mr (J6 n.sh) r z) F.j8).trans ?_;exact ak
   refine Nd ?_;intros;refine GO.ev (Ev.j6 (done:=z) rfl rfl) ae ?_;by_cases a3:p.1.1=A
   .have T:A∈n.sh.map (·.1):=by
     obtain⟨k,hk,M⟩:=H9 a6;exact List.mem_map.2 ⟨k,hk,by rw[<-a3,<-M]⟩
    rw[hs,Χ T];refine Nd ?_;intros;refine KX.a8 aF ?_ ⟨rfl,rfl⟩;refine(F.at (Ο:=fY D5 bL n.mr (J6 n.sh) r (z++[p])) F.j8).trans ?_;exact ak
   .refine Nd ?_;intros;refine⟨z++[p],⟨by simp;omega,λq hq=>?_⟩,by simp;omega,aD,by exact ak⟩;rcases J8 hq with hq|hq
    .exact a4 q hq
    .rw[F6 hq];exact a3
end
section
open Go.V
attribute [local irreducible] Α GO GP δ ms GF GE Ev Ef C0 F CB GB V.Enters bJ
def zn{L:Η}(o:E9):Τ Θ 128 #[bF (dz o)] L (F3 (.bool (dB (¬o.state=2))) L):=by
 refine Τ.bd ?_;refine Nd ?_;intros;exact KX.en ⟨rfl,rfl⟩
def zu{L:Η}(ad:OA)(n c:Nat)(os:List E9)[hrd:F2 L ad E9 dz 8 os](hn:n=os.length)(U:os.length<=1000) :
  Τ Θ 186 #[ah ad n c,.func (.func 128) #[] #[]] L (λv Γ=>∃k:Int,v=J k/\(0<=k↔∃o∈os,¬o.state=2)/\Γ = L):=by
 subst hn;refine Τ.bd ?_;refine Nd ?_;intros;refine Α.loop (α:=Nat) (λi=>i<=os.length/\∀o∈os.take i,o.state=2) (λi=>[(0,ah ad os.length c),(1,.func (.func 128) #[] #[]),(7,J (os.length:Int)),(8,J (i:Int))]) (λi=>L) (λi=>os.length - i) 0 ⟨aC _,λo h=>hD h (by rw[bj];exact aG)⟩ aD (F.refl _) ?_;rintro i ⟨hi,ha⟩;by_cases B:i<os.length
 case neg =>
  rw[aM D] at ha;refine Nd ?_;intros;refine KX.a8 aF (F.refl _) ⟨-1,rfl,⟨λh=>hD h ae,λ⟨o,ho,h⟩=>hD (ha o ho) h⟩,rfl⟩
 have a2:(i:Int).toNat=i:=D;have M:os[i]!∈os:=by rw[D7 B];exact cX B
 refine Nd ?_;intros;rw[a2];refine GO.ef (Ef.c7 (first:=[]) (cap:=[]) (vs:=[bF (dz os[i]!)]) (zn os[i]!) rfl rfl) ae ?_;rintro _ _⟨rfl,rfl⟩;by_cases hs:os[i]!.state=2
 .refine Nd ?_;intros;refine⟨i+1,⟨D,λo ho=>?_⟩,D,?_,F.refl _⟩
  .rw[aB B] at ho;rcases J8 ho with ho|ho
   .exact ha o ho
   .rw[F6 ho,<-D7 B];exact hs
  .rw[bC i];exact aD
 .refine Nd ?_;intros;refine KX.a8 aF (F.refl _) ⟨(i:Int),rfl,⟨λ_=>⟨os[i]!,M,hs⟩,λ_=>D⟩,rfl⟩
def om{L:Η}(ad:OA)(n c:Nat)(os:List E9)[hrd:F2 L ad E9 dz 8 os](hn:n=os.length)(U:os.length<=1000) :
  Τ Θ 127 #[ah ad n c,.func (.func 128) #[] #[]] L (λv Γ=>v=.bool (dB (∃o∈os,¬o.state=2))/\Γ = L):=by
 refine Τ.bd ?_;refine Nd ?_;intros;refine GO.ca (zu ad n c os hn U) ?_;rintro _ _⟨k,rfl,hk,rfl⟩;refine Nd ?_;intros;refine KX.a8 aF (F.refl _) ⟨?_,rfl⟩;refine congrArg Value.bool ?_;rw[dH,dH];exact decide_eq_decide.2 hk
end
section
open Go.V
def gd(N:υ)(A:Int):Bool :=
 (match ζ N.Φ A with
  | some x=>!x.dec || dB (x.told.length<x.iM.length)
  | none=>false) ||
 (match ζ N.Β A with
  | some p=>dB (p.state=0) || dB (∃o∈p.Z,¬o.state=2)
  | none=>false)
attribute [local irreducible] Α GO GP δ ms GF GE Ev Ef C0 F CB GB V.Enters bJ
abbrev Ei:=Ze [.ev 17,.ev 18,.ev 19,.ev 20]
def Wt{φ ψ:Prop}(k:ψ)(h:Hid ψ->φ:=by intro k;(repeat (first|refine ab ?_|intro B6|refine Α.dr 62 2 Ei ?_));(repeat revert B6);exact Hid.out k):φ:=h ⟨k⟩
def BQ{L:Η}(nb lb:Nat)(d G:Int)(n:G0)(A:Int)(a6:∀p∈n.Β,p.2.Z.length<=1000) :
  Τ Θ 66 #[av nb,J A] (eu nb lb d G n L) (F3 (.bool (gd n.m A)) (eu nb lb d G n L)):=by
 refine Τ.bd ?_;simp only[eu,gL];refine Α.c8 (eO (b:=n.mb)) λhn=>?_;refine Α.c8 (eO (b:=n.mp)) λhm=>?_;cases hg:List.lookup A n.Φ with
 | none =>
  have U:ζ n.m.Φ A=none:=by rw[fW,hg];rfl
  have M:=F.refl (eu nb lb d G n L);simp only[eu,gL] at M;cases hp:List.lookup A n.Β with
  | none =>
   have a2:ζ n.m.Β A=none:=by rw[fK,hp];rfl
   have hs:gd n.m A=false:=by
    unfold gd;rw[U,a2];rfl
   rw[hs];refine Wt ?_;intros;refine GO.ev (Ev.a8 rfl rfl) ae ?_;rw[hg];dsimp only[Option.map,Option.getD,Option.isSome];refine Wt ?_;intros;refine GO.ev (Ev.a8 rfl rfl) ae ?_;rw[hp];dsimp only[Option.map,Option.getD,Option.isSome];refine Wt ?_;intros;refine KX.a8 aF ?_ ⟨rfl,rfl⟩;exact ak
  | some p =>
   have a2:ζ n.m.Β A=some p.m:=by rw[fK,hp];rfl
   have a3:=a6 _ (bQ hp)
   have hs:gd n.m A=(dB (p.state=0) || dB (∃o∈p.m.Z,¬o.state=2)):=by
    unfold gd;rw[U,a2];rfl
   have hex:dB (∃o∈p.m.Z,¬o.state=2)=dB (∃o∈p.Z,¬o.state=2):=by
    rw[dH,dH];refine decide_eq_decide.2 ⟨λ⟨o,ho,h⟩=>?_,λ⟨o,ho,h⟩=>⟨o.m,PB ho,h⟩⟩;obtain⟨v,hv,rfl⟩:=H9 ho;exact⟨v,hv,h⟩
   have B:=jp (nb:=nb) (lb:=lb) (d:=d) (G:=G) (L:=L) hm hp p rfl;rw[iQ hp hm] at B;simp only[eu,gL,Pe,OE] at B;rw[hs,hex];refine Α.cL (F.at (Ο:=ey H6 n.Β) (nr hm hp)) ?_;simp only[Pe,OE];by_cases hz:p.state=0
   .rw[bN hz,Bool.true_or];refine Wt ?_;intros;refine GO.ev (Ev.a8 rfl rfl) ae ?_;rw[hg];dsimp only[Option.map,Option.getD,Option.isSome];refine Wt ?_;intros;refine GO.ev (Ev.a8 rfl rfl) ae ?_;rw[hp];dsimp only[Option.map,Option.getD,Option.isSome,cC];refine Wt ?_;intros;refine KX.a8 aF (F.trans ?_ B) ⟨rfl,rfl⟩;exact ak
   .rw[bB hz,Bool.false_or];refine Wt ?_;intros;refine GO.ev (Ev.a8 rfl rfl) ae ?_;rw[hg];dsimp only[Option.map,Option.getD,Option.isSome];refine Wt ?_;intros;refine GO.ev (Ev.a8 rfl rfl) ae ?_;rw[hp];dsimp only[Option.map,Option.getD,Option.isSome,cC];refine Wt ?_;intros;refine GO.cr (om p.bG p.Z.length p.hx p.Z rfl a3) ?_;refine Wt ?_;intros;refine KX.a8 aF (F.trans ?_ B) ⟨rfl,rfl⟩;exact ak
 | some x =>
  have U:ζ n.m.Φ A=some x.m:=by rw[fW,hg];rfl
  have M:=kB (nb:=nb) (lb:=lb) (d:=d) (G:=G) (L:=L) hn hg x rfl;rw[iQ hg hn] at M;simp only[eu,gL,OJ,NW] at M;refine Α.cL (F.at (Ο:=ey I4 n.Φ) (qY hn hg)) ?_;simp only[OJ,NW];cases hd:x.dec with
  | false =>
   rw[hd] at M
   have hs:gd n.m A=true:=by
    unfold gd;rw[U];simp[show x.m.dec=false from hd]
   rw[hs];refine Wt ?_;intros;refine GO.ev (Ev.a8 rfl rfl) ae ?_;rw[hg];dsimp only[Option.map,Option.getD,Option.isSome,cy];refine Wt ?_;intros;refine KX.a8 aF (F.trans ?_ M) ⟨rfl,rfl⟩;exact ak
  | true =>
   rw[hd] at M
   have hX:∀ε:Η,F (cS gm cy n.mb n.Φ::OJ x (ey I4 (I1 n.Φ A)::ε)) (cS gm cy n.mb n.Φ::ey I4 n.Φ::ε):=λε=>by
    have h:=vF (L:=ε) hn hg x rfl;rw[iQ hg hn] at h;exact h
   simp only[OJ,NW,hd] at hX;by_cases a4:x.told.length<x.iM.length
   .have a5 : (x.told.length:Int)<(x.iM.length:Int):=D
    have hs:gd n.m A=true:=by
     unfold gd;rw[U];simp[show x.m.dec=true from hd,bN (show x.m.told.length<x.m.iM.length from a4)]
    rw[hs];refine Wt ?_;intros;refine GO.ev (Ev.a8 rfl rfl) ae ?_;rw[hg];dsimp only[Option.map,Option.getD,Option.isSome,cy];refine Wt ?_;intros;refine δ.Ob (Ev.Ue rfl) ae ?_;rw[oJ];refine Wt ?_;intros;refine KX.a8 aF (F.trans ?_ M) ⟨rfl,rfl⟩;exact ak
   .have a5 : ¬(x.told.length:Int)<(x.iM.length:Int):=D;cases hp:List.lookup A n.Β with
    | none =>
     have a2:ζ n.m.Β A=none:=by rw[fK,hp];rfl
     have hs:gd n.m A=false:=by
      unfold gd;rw[U,a2];dsimp only;rw[show x.m.dec=true from hd,bB (show ¬x.m.told.length<x.m.iM.length from a4)];rfl
     rw[hs];refine Wt ?_;intros;refine GO.ev (Ev.a8 rfl rfl) ae ?_;rw[hg];dsimp only[Option.map,Option.getD,Option.isSome,cy];refine Wt ?_;intros;refine δ.Ob (Ev.Ue rfl) ae ?_;rw[oJ];refine Wt ?_;intros;refine GO.cL (F.trans ?_ (hX (obj nb C4 [av lb,J d,J G,J n.μ,J n.U,.map (some n.mb),.map (some n.mp),.map (some n.mr)]::cS gm cC n.mp n.Β::ey H6 n.Β::cS D5 bL n.mr (J6 n.sh)::L))) ?_
     .exact ak
     refine GO.ev (Ev.a8 rfl rfl) ae ?_;rw[hp];dsimp only[Option.map,Option.getD,Option.isSome];refine Wt ?_;intros;refine KX.a8 aF ?_ ⟨rfl,rfl⟩;exact ak
    | some p =>
     have a2:ζ n.m.Β A=some p.m:=by rw[fK,hp];rfl
     have a3:=a6 _ (bQ hp)
     have hs:gd n.m A=(dB (p.state=0) || dB (∃o∈p.m.Z,¬o.state=2)):=by
      unfold gd;rw[U,a2];dsimp only;rw[show x.m.dec=true from hd,bB (show ¬x.m.told.length<x.m.iM.length from a4)];rfl
     have hex:dB (∃o∈p.m.Z,¬o.state=2)=dB (∃o∈p.Z,¬o.state=2):=by
      rw[dH,dH];refine decide_eq_decide.2 ⟨λ⟨o,ho,h⟩=>?_,λ⟨o,ho,h⟩=>⟨o.m,PB ho,h⟩⟩;obtain⟨v,hv,rfl⟩:=H9 ho;exact⟨v,hv,h⟩
     have B:=jp (nb:=nb) (lb:=lb) (d:=d) (G:=G) (L:=L) hm hp p rfl;rw[iQ hp hm] at B;simp only[eu,gL,Pe,OE] at B;rw[hs,hex];refine Α.cL (F.at (Ο:=ey H6 n.Β) (nr hm hp)) ?_;simp only[Pe,OE];by_cases hz:p.state=0
     .rw[bN hz,Bool.true_or];refine Wt ?_;intros;refine GO.ev (Ev.a8 rfl rfl) ae ?_;rw[hg];dsimp only[Option.map,Option.getD,Option.isSome,cy];refine Wt ?_;intros;refine δ.Ob (Ev.Ue rfl) ae ?_;rw[oJ];refine Wt ?_;intros;refine GO.cL (F.trans ?_ (hX (obj nb C4 [av lb,J d,J G,J n.μ,J n.U,.map (some n.mb),.map (some n.mp),.map (some n.mr)]::cS gm cC n.mp n.Β::obj p.b Oe [J p.state,J p.Ι,ah p.bG p.Z.length p.hx]::Ω dz 8 N6 p.bG p.hx p.Z::Ψ I9 p.Z::ey H6 (I1 n.Β A)::cS D5 bL n.mr (J6 n.sh)::L))) ?_
      .exact ak
      refine GO.ev (Ev.a8 rfl rfl) ae ?_;rw[hp];dsimp only[Option.map,Option.getD,Option.isSome,cC];refine Wt ?_;intros;refine KX.a8 aF (F.trans ?_ B) ⟨rfl,rfl⟩;exact ak
     .rw[bB hz,Bool.false_or];refine Wt ?_;intros;refine GO.ev (Ev.a8 rfl rfl) ae ?_;rw[hg];dsimp only[Option.map,Option.getD,Option.isSome,cy];refine Wt ?_;intros;refine δ.Ob (Ev.Ue rfl) ae ?_;rw[oJ];refine Wt ?_;intros;refine GO.cL (F.trans ?_ (hX (obj nb C4 [av lb,J d,J G,J n.μ,J n.U,.map (some n.mb),.map (some n.mp),.map (some n.mr)]::cS gm cC n.mp n.Β::obj p.b Oe [J p.state,J p.Ι,ah p.bG p.Z.length p.hx]::Ω dz 8 N6 p.bG p.hx p.Z::Ψ I9 p.Z::ey H6 (I1 n.Β A)::cS D5 bL n.mr (J6 n.sh)::L))) ?_
      .exact ak
      refine GO.ev (Ev.a8 rfl rfl) ae ?_;rw[hp];dsimp only[Option.map,Option.getD,Option.isSome,cC];refine Wt ?_;intros;refine GO.cr (om p.bG p.Z.length p.hx p.Z rfl a3) ?_;refine Wt ?_;intros;refine KX.a8 aF (F.trans ?_ B) ⟨rfl,rfl⟩;exact ak
