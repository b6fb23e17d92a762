/- Lemmas. -/
import Derived.Test.YtlgpgjdggilkgaaGreatDoorErbi
set_option linter.all false
set_option maxHeartbeats 8000000
namespace Go.Proofs.YtlgpgjdggilkgaaGreatDoor
section
open Go.V
noncomputable def cS(d Q:Int)(x:xs)(G:Int)(N:eu)(S:Χ):Ja :=
 if x.to=d/\(0<=x.Ψ/\x.Ψ<Q)/\x.Ψ≠d then Ix d G (bk d x.Ψ x.ct G N S).1 (bk d x.Ψ x.ct G N S).2.1 (bk d x.Ψ x.ct G N S).2.2 else([],N,S)
def GV(m:IF):0<(IQ m).length:=by
 unfold IQ;simp only[aq,aO,aX];omega
def uR{ζ:D4}{d Ψ G:Int}{m:IF}{N:eu}{S:Χ}(hN:IU ζ d N S)(hm:Kp m)(hb:gm S+E9 N+2*Kh m.Η<=2000)(hk:0<=m.Κ):((∀y∈(bk d Ψ m G N S).1,Mc d 7 y/\cost d y=0)/\IU ζ d (bk d Ψ m G N S).2.1 (bk d Ψ m G N S).2.2/\gm (bk d Ψ m G N S).2.2+E9 (bk d Ψ m G N S).2.1<=gm S+E9 N+2*Kh m.Η)/\(Ix d G (bk d Ψ m G N S).1 (bk d Ψ m G N S).2.1 (bk d Ψ m G N S).2.2).1.length<=3300/\(bk d Ψ m G N S).1.length<=3300:=by
 obtain⟨J,U,h3⟩:=qy (ms:=Ψ) (G:=G) hN hm (au _) hb;have hl:=oP (ms:=Ψ) (G:=G) (m:=m) hN
 have hp:∀y∈(bk d Ψ m G N S).1,Mc d 7 y/\cost d y=0:=λy Z=>by
  have hs:=h3 y Z;have h4:=hs.Κ;refine⟨⟨hs.ct,by decide,λ_=>B⟩,?_⟩;unfold cost;split
  .rename_i q;rw[hs.h1 q];rfl
  .rfl
 refine⟨⟨hp,J,U⟩,?_,aQ (Nat.le_mul_of_pos_right _ (sG (m.Κ+1))) (aQ hl (pi _))⟩
 obtain⟨_,_,_,i4⟩:=pK (ζ:=ζ) (d:=d) (f:=bF d G 7) (b:=gm S+E9 N+2*Kh m.Η) (C:=Ld (m.Κ+1)) (λy=>MJ d m.Κ y/\Mc d 7 y/\cost d y=0) (λy N' S' Z r I=>by
  obtain⟨q1,q2,q3,q4⟩:=nz (G:=G) hb 7 y N' S' Z.2.1 r (by rw[Z.2.2];exact I);exact⟨q1,q2,q3,aQ q4 (qM Z.1.Κ)⟩) _ _ _ (λy Z=>⟨h3 y Z,hp y Z⟩) J U
 exact aQ i4 (aQ hl (pi _))
theorem ji{d:Int}:∀{l:List xs},(∀y∈l,cost d y=0)->fD d l=0
 | [],_=>rfl
 | y::l,h=>by
  have e:fD d (y::l)=cost d y+fD d l:=by unfold fD;rw[aF,bZ]
  rw[e,h y az,ji λx K=>h x (aB _ K)]
attribute [local irreducible] Δ R GP Ο h2 GF GE O Ef A8 A CB GB V.Enters bF
def lL{L:LH}(nb lb:Nat)(d Q ω hl:Int)(mb mp mr:Nat)(k:Int):Λ Ε 85 #[al nb,E k] (obj nb B2 (cw lb d Q ω hl mb mp mr)::L) (C9 (.bool (dB (0<=k/\k<Q))) (obj nb B2 (cw lb d Q ω hl mb mp mr)::L)):=by
 refine Λ.bd ?_;simp only[cw];by_cases h0:0<=k
 .by_cases J:k<Q
  .rw[bI ⟨h0,J⟩];refine Ih ?_;intros;refine KX.a8 aw (A.refl _) ⟨?_,rfl⟩;exact congrArg Value.bool (bI J)
  .rw[bj (λq=>J q.2)];refine Ih ?_;intros;refine KX.a8 aw (A.refl _) ⟨?_,rfl⟩;exact congrArg Value.bool (bj J)
 .rw[bj (λq=>h0 q.1)];refine Ih ?_;intros;exact KX.en ⟨rfl,rfl⟩
abbrev Bm:=Ux [.ev 10,.ef 11,.ev 12,.ev 13,.ev 14,.ev 15,.ev 16,.ev 17,.ev 18,.ev 19,.ev 20,.ev 21,.ev 22,.ev 23,.ev 24,.ev 25,.ev 26,.ev 27,.ev 28]
def RF{φ ψ:Prop}(k:ψ)(h:Hid ψ->φ:=by intro k;(repeat (first|refine aa ?_|intro sh|refine Δ.dr 43 1 Bm ?_));(repeat revert sh);exact Hid.out k):φ:=h ⟨k⟩
def jN{L:LH}(nb lb:Nat)(d Q:Int)(n:E0)(S:Χ)(ζ:D4)(x:JQ)(I:Kp x.m.ct)(a5:0<=x.m.ct.Κ)(hN:IU ζ d n.m S)(hk:gm S+E9 n.m+2*Kh x.m.ct.Η<=2000)(G:Int) :
  Λ Ε 38 #[al nb,bh (aV x),E G] (cV x::a1 nb lb d Q n (aN lb S::L)) (kD nb lb d Q (cS d Q x.m G n.m S) L):=by
 have a6:=GV x.m.ct;refine Λ.bd ?_;simp only[a1,cw];by_cases ht:x.m.to=d
 case neg =>
  have hr:cS d Q x.m G n.m S=([],n.m,S):=Ω λq=>ht q.1;rw[hr];refine RF ?_;intros;refine KX.a8 aw ?_ ⟨none,0,[],n,rfl,rfl,rfl,rfl⟩;refine(A.c8 aV 3 hy).trans ((A.a8 cV).trans ?_);simp only[a1,cw];exact ag
 refine RF ?_;intros;rename_i b4;refine Ο.υ (Y:=obj nb B2 [al lb,E d,E Q,E n.ω,E n.hl,.map (some n.mb),.map (some n.mp),.map (some n.mr)]::(obj b4 hy (aV x)::cV x::τ cu cc n.mb n.δ::ew F7 n.δ::τ cu cg n.mp n.Ζ::ew F2 n.Ζ::τ B7 bE n.mr (G8 n.C1)::aN lb S::L)) ag ?_;refine Ο.cr (lL nb lb d Q n.ω n.hl n.mb n.mp n.mr x.m.Ψ) ?_;simp only[cw];by_cases r:0<=x.m.Ψ/\x.m.Ψ<Q
 case neg =>
  have hr:cS d Q x.m G n.m S=([],n.m,S):=Ω λq=>r q.2.1;rw[bj r];refine RF ?_;intros;rw[hr];refine KX.a8 aw ?_ ⟨none,0,[],n,rfl,rfl,rfl,rfl⟩;refine(A.c8 aV 3 hy).trans ((A.a8 cV).trans ?_);simp only[a1,cw];exact ag
 rw[bI r];by_cases a2:x.m.Ψ=d
 .have hr:cS d Q x.m G n.m S=([],n.m,S):=Ω λq=>q.2.2 a2;refine RF ?_;intros;rw[hr];refine KX.a8 aw ?_ ⟨none,0,[],n,rfl,rfl,rfl,rfl⟩;refine(A.c8 aV 3 hy).trans ((A.a8 cV).trans ?_);simp only[a1,cw];exact ag
 have hr:cS d Q x.m G n.m S=Ix d G (bk d x.m.Ψ x.m.ct G n.m S).1 (bk d x.m.Ψ x.m.ct G n.m S).2.1 (bk d x.m.Ψ x.m.ct G n.m S).2.2:=μ ⟨ht,r,a2⟩;obtain⟨⟨r1,r2,r3⟩,r4,r5⟩:=uR (Ψ:=x.m.Ψ) (G:=G) hN I hk a5;refine RF ?_;intros;refine R.υ (Y:=cV x::a1 nb lb d Q n (aN lb S::L)) (by simp only[a1,cw];exact ag) ?_;refine R.ca (pY nb lb d Q n S ζ x I hN hk G) ?_;rintro _ _⟨M,cap,T,n1,rfl,a3,a4,rfl⟩;rw[<-a3,<-a4] at hr r4;rw[<-a3] at r1 r5;rw[<-a4] at r2 r3;rw[hr];generalize (bk d x.m.Ψ x.m.ct G n.m S).2.2=S1 at *;have hP:∀y∈T,Mc d 7 y.m:=λy Z=>(r1 _ (Kg Z)).1;have hz:fD d (T.map (·.m))=0:=ji λy Z=>(r1 y Z).2;rw[ah] at r5;refine RF ?_;intros;refine R.ef (Ef.d8 (vs:=[al nb,ae M T.length cap,E G]) (lP (L:=L) nb lb d Q n1 S1 ζ 2000 (au _) G M cap T hP r2 B B B) rfl) ac ?_;intro v Y hv;refine RF ?_;intros;refine KX.a8 aw (A.refl _) ?_;exact hv
end
section
open Go.V
def eH(d F:Int)(x:J7)(G:Int):List xs×J7 :=
 if x.dec=true then(cJ d x.B3 x.told (E3 3 F 0 x.I4),x)
 else if x.Ev<G then(cJ d x.B3 [] (E3 3 F 0 false),x.Ol false)
 else(cJ d x.B3 x.G5 ⟨1,F,0,false,x.Η,[]⟩,x)
def CJ{F:Int}{x:JR}{L:LH}:A (ε aW 5 x.ad x.Η::Ρ gy x.Η::L) (ID ⟨1,F,0,false,x.Η,x.ad,x.fe,[],none,0⟩::ε aW 5 x.ad x.Η::Ρ gy x.Η::L):=by
 refine(A.dup (cA _ _ _ _).Mx).trans ?_;refine A.trans (cq:=Ρ gy x.Η::ε aW 5 x.ad x.Η::ε aW 5 x.ad x.Η::L) ag ?_;refine(A.dup (eg eD).Mx).trans ?_;refine(A.f5 (a0 .i64) 1 none).trans ?_;refine A.trans (cq:=Ρ gy x.Η::ε (a0 .i64) 1 none []::Ρ gy x.Η::ε aW 5 x.ad x.Η::ε aW 5 x.ad x.Η::L) ag ?_;refine(A.g8 (eg eD) (cA _ _ _ _)).trans ?_;refine A.trans (cq:=ε aW 5 x.ad x.Η::Nf (Ρ gy x.Η) (ε (a0 .i64) 1 none [])::ε aW 5 x.ad x.Η::Ρ gy x.Η::L) ag ?_;exact A.g8 (cA _ _ _ _) (JJ.and (eg eD) (cA _ _ _ _))
attribute [local irreducible] Δ R GP Ο h2 GF GE O Ef A8 A CB GB V.Enters bF
def ER{L:LH}(lb:Nat)(d Q:Int)(h0:0<=d)(J:d<Q)(U:Q<=12) :
  Λ Ε 49 #[al lb,E d,E Q] L (λv Y=>∃nb mb mp mr,v=.tuple #[al nb,E 0]/\Y = a1 nb lb d Q ⟨mb,mp,mr,0,0,[],[],[]⟩ L):=by
 have e1:¬Q<1:=B;have e2:¬Q>12:=B;have e3:¬d<0:=B;have e4:¬d >= Q:=B;refine Λ.bd ?_;refine Ih ?_;intros;refine R.ef (Ef.c8 cu cc (.inl rfl)) ac ?_;rintro _ _⟨mb,rfl,rfl⟩;refine R.ef (Ef.c8 cu cg (.inl rfl)) ac ?_;rintro _ _⟨mp,rfl,rfl⟩;refine R.ef (Ef.c8 B7 bE (.inl rfl)) ac ?_;rintro _ _⟨mr,rfl,rfl⟩;refine Ih ?_;intros;rename_i nb;refine KX.a8 aw ?_ ⟨nb,mb,mp,mr,rfl,rfl⟩;simp only[a1,cw];refine(A.j0 F7).trans ((A.j0 F2).trans ?_);rw[show G8 []=[] from rfl];exact ag
abbrev Bl:=Ux [.ev 10,.ev 11,.ef 12,.ev 13]
abbrev Bk:=Ux [.ev 10,.ev 11,.ef 12,.ev 13]
def RM{φ ψ:Prop}(k:ψ)(h:Hid ψ->φ:=by intro k;(repeat (first|refine aa ?_|intro sh|refine Δ.dr 51 2 Bl ?_|refine Δ.dr 51 5 Bk ?_));(repeat revert sh);exact Hid.out k):φ:=h ⟨k⟩
def Cv{L:LH}(nb lb:Nat)(d Q ω hl:Int)(mb mp mr:Nat)(F:Int)(a4:id F)(x:JR)(K:Rj x.m)(G:Int) :
  Λ Ε 96 #[al nb,E F,.pointer (some ⟨x.b,0,none⟩),E G] (obj nb B2 (cw lb d Q ω hl mb mp mr)::J8 x L) (λv Y=>∃M cap T y,v=ae M T.length cap/\y.b=x.b/\(T.map (·.m),y.m)=eH d F x.m G/\Y = Υ aV 3 hy M cap T::Ρ cV T::obj nb B2 (cw lb d Q ω hl mb mp mr)::J8 y L):=by
 have a3:x.B3.length<=100:=K.gl;refine Λ.bd ?_;simp only[cw,J8,Jn];cases hd:x.dec with
 | true =>
  have hr:eH d F x.m G=(cJ d x.B3 x.told (Kq 3 F 0 x.I4).m,x.m):=by
   unfold eH;rw[μ (show x.m.dec=true from hd)];rfl
  have r:=ld (L:=τ cu bE x.mt (I3 x.told)::τ cu bE x.mv (I3 x.G5)::ε aW 5 x.ad x.Η::Ρ gy x.Η::L) nb lb d Q ω hl mb mp mr x a3 (Kq 3 F 0 x.I4) (iH (Κ:=3) (eZ:=0) (by unfold id;omega) a4 (by unfold id;omega)) (some x.mt) x.told (.inr ⟨x.mt,_,rfl,rfl⟩);simp only[Jn,hd] at r;refine RM ?_;intros;refine Ο.υ (Y:=obj nb B2 [al lb,E d,E Q,E ω,E hl,.map (some mb),.map (some mp),.map (some mr)]::ID (Kq 3 F 0 x.I4)::obj x.b KL [ae x.ad x.Η.length x.fe,ae x.Jh x.B3.length x.LG,E x.Ev,.map (some x.mv),.map (some x.mt),.bool true,.bool x.I4]::ε (a0 .i64) 1 x.Jh x.B3::(τ cu bE x.mt (I3 x.told)::τ cu bE x.mv (I3 x.G5)::ε aW 5 x.ad x.Η::Ρ gy x.Η::L)) ((Nn (Κ:=3) (F:=F) (eZ:=0) (yes:=x.I4)).trans ag) ?_;refine Ο.ca (r) ?_;rintro _ _⟨M,cap,T,rfl,a2,rfl⟩;simp only[cw];refine RM ?_;intros;refine KX.a8 aw ?_ ⟨M,cap,T,x,rfl,rfl,by rw[a2,hr],rfl⟩;simp only[J8,Jn,hd];exact ag
 | false =>
  by_cases hu:x.Ev<G
  .have a5 : G>x.Ev:=hu
   have hr:eH d F x.m G=(cJ d x.B3 [] (E3 3 F 0 false),x.m.Ol false):=by
    unfold eH;rw[Ω (by rw[show x.m.dec=false from hd];exact em),μ (show x.m.Ev<G from hu)];rfl
   have I:=qg (L:=τ cu bE x.mt (I3 x.told)::τ cu bE x.mv (I3 x.G5)::ε aW 5 x.ad x.Η::Ρ gy x.Η::L) nb lb d Q ω hl mb mp mr F a4 x a3 false;simp only[Jn,hd] at I;refine RM ?_;intros;refine R.υ (Y:=obj nb B2 [al lb,E d,E Q,E ω,E hl,.map (some mb),.map (some mp),.map (some mr)]::obj x.b KL [ae x.ad x.Η.length x.fe,ae x.Jh x.B3.length x.LG,E x.Ev,.map (some x.mv),.map (some x.mt),.bool false,.bool x.I4]::ε (a0 .i64) 1 x.Jh x.B3::(τ cu bE x.mt (I3 x.told)::τ cu bE x.mv (I3 x.G5)::ε aW 5 x.ad x.Η::Ρ gy x.Η::L)) ag ?_;refine R.ca (I) ?_;rintro _ _⟨M,cap,T,rfl,a2,rfl⟩;simp only[cw];refine RM ?_;intros;refine KX.a8 aw ?_ ⟨M,cap,T,{ x with dec:=true,I4:=false },rfl,rfl,by rw[a2,hr];rfl,rfl⟩;simp only[J8,Jn];exact ag
  .have a5 : ¬G>x.Ev:=hu
   have hr:eH d F x.m G=(cJ d x.B3 x.G5 (⟨1,F,0,false,x.Η,x.ad,x.fe,[],none,0⟩:Ko).m,x.m):=by
    unfold eH;rw[Ω (by rw[show x.m.dec=false from hd];exact em),Ω (show ¬x.m.Ev<G from hu)];rfl
   have r:=ld (L:=τ cu bE x.mv (I3 x.G5)::τ cu bE x.mt (I3 x.told)::ε aW 5 x.ad x.Η::Ρ gy x.Η::L) nb lb d Q ω hl mb mp mr x a3 (⟨1,F,0,false,x.Η,x.ad,x.fe,[],none,0⟩:Ko) ⟨⟨by unfold id;dsimp only[Ko.m];omega,a4,by unfold id;dsimp only[Ko.m];omega⟩,K.Η,K.lg,aC _,λ_ h=>iW h aD⟩ (some x.mv) x.G5 (.inr ⟨x.mv,_,rfl,rfl⟩);simp only[Jn,hd] at r;refine RM ?_;intros;refine Ο.υ (Y:=obj nb B2 [al lb,E d,E Q,E ω,E hl,.map (some mb),.map (some mp),.map (some mr)]::ID (⟨1,F,0,false,x.Η,x.ad,x.fe,[],none,0⟩:Ko)::obj x.b KL [ae x.ad x.Η.length x.fe,ae x.Jh x.B3.length x.LG,E x.Ev,.map (some x.mv),.map (some x.mt),.bool false,.bool x.I4]::ε (a0 .i64) 1 x.Jh x.B3::(τ cu bE x.mv (I3 x.G5)::τ cu bE x.mt (I3 x.told)::ε aW 5 x.ad x.Η::Ρ gy x.Η::L)) (A.trans (cq:=ε aW 5 x.ad x.Η::Ρ gy x.Η::obj nb B2 [al lb,E d,E Q,E ω,E hl,.map (some mb),.map (some mp),.map (some mr)]::obj x.b KL [ae x.ad x.Η.length x.fe,ae x.Jh x.B3.length x.LG,E x.Ev,.map (some x.mv),.map (some x.mt),.bool false,.bool x.I4]::ε (a0 .i64) 1 x.Jh x.B3::τ cu bE x.mv (I3 x.G5)::τ cu bE x.mt (I3 x.told)::L) ag ((CJ (F:=F) (x:=x)).trans ag)) ?_;refine Ο.ca (r) ?_;rintro _ _⟨M,cap,T,rfl,a2,rfl⟩;simp only[cw];refine RM ?_;intros;refine KX.a8 aw ?_ ⟨M,cap,T,x,rfl,rfl,by rw[a2,hr],rfl⟩;simp only[J8,Jn,hd];exact ag
end
section
open Go.V
def fj(N:eu)(F:Int):Int:=match dV N.δ F with
 | some x=>if x.dec=false then 1 else if x.I4=true then 2 else 3
 | none=>match dV N.Ζ F with
  | some p=>if p.state=0 then 1 else if p.state=1 then 2 else 3
  | none=>if F∈N.C1.map (·.1) then 2 else 0
attribute [local irreducible] Δ R GP Ο h2 GF GE O Ef A8 A CB GB V.Enters bF
def ko{L:LH}(nb lb:Nat)(d Q:Int)(n:E0)(F:Int) :
  Λ Ε 23 #[al nb,E F] (a1 nb lb d Q n L) (C9 (E (fj n.m F)) (a1 nb lb d Q n L)):=by
 refine Λ.bd ?_;simp only[a1,cw];refine Δ.c9 (dR (b:=n.mb)) λhn=>?_;refine Δ.c9 (dR (b:=n.mp)) λhm=>?_;refine Δ.c9 (dR (b:=n.mr)) λhr=>?_;cases hg:List.lookup F n.δ with
 | some x =>
  have hl:dV n.m.δ F=some x.m:=by rw[fo,hg];rfl
  have hs:fj n.m F=if x.dec=false then 1 else if x.I4=true then 2 else 3:=by unfold fj;rw[hl];rfl
  have r:=jy (nb:=nb) (lb:=lb) (d:=d) (Q:=Q) (L:=L) hn hg x rfl;rw[iJ hg hn] at r;simp only[a1,cw,J8,Jn] at r;rw[hs];refine Δ.υ (A.at (Μ:=ew F7 n.δ) (oX hn hg)) ?_;simp only[J8,Jn];refine Ih ?_;intros;refine R.ev (O.a8 rfl rfl) ac ?_;rw[hg];dsimp only[Option.map,Option.getD,Option.isSome,cc];cases hd:x.dec with
  | false =>
   rw[hd] at r;refine Ih ?_;intros;first|rw[show(!false)=true from rfl]|skip
   refine Ih ?_;intros;refine KX.a8 aw (A.trans ?_ r) ⟨rfl,rfl⟩;exact ag
  | true =>
   rw[hd] at r;cases ht:x.I4 with
   | false =>
    rw[ht] at r;refine Ih ?_;intros;refine KX.a8 aw (A.trans ?_ r) ⟨rfl,rfl⟩;exact ag
   | true =>
    rw[ht] at r;refine Ih ?_;intros;refine KX.a8 aw (A.trans ?_ r) ⟨rfl,rfl⟩;exact ag
 | none =>
  have hl:dV n.m.δ F=none:=by rw[fo,hg];rfl
  cases hp:List.lookup F n.Ζ with
  | some p =>
   have a2:dV n.m.Ζ F=some p.m:=by rw[eQ,hp];rfl
   have hs:fj n.m F=if p.state=0 then 1 else if p.state=1 then 2 else 3:=by unfold fj;rw[hl];dsimp only;rw[a2];rfl
   have r:=iB (nb:=nb) (lb:=lb) (d:=d) (Q:=Q) (L:=L) hm hp p rfl;rw[iJ hp hm] at r;simp only[a1,cw,Ku,J2] at r;rw[hs];refine Δ.υ (A.at (Μ:=ew F2 n.Ζ) (lI hm hp)) ?_;simp only[Ku,J2];refine Ih ?_;intros;refine R.ev (O.a8 rfl rfl) ac ?_;rw[hg];dsimp only[Option.map,Option.getD,Option.isSome];refine Ih ?_;intros;refine R.ev (O.a8 rfl rfl) ac ?_;rw[hp];dsimp only[Option.map,Option.getD,Option.isSome,cg];by_cases h0:p.state=0
   .rw[μ h0];refine Ih ?_;intros;refine KX.a8 aw (A.trans ?_ r) ⟨rfl,rfl⟩;exact ag
   .rw[Ω h0];by_cases J:p.state=1
    .rw[μ J];refine Ih ?_;intros;refine KX.a8 aw (A.trans ?_ r) ⟨rfl,rfl⟩;exact ag
    .rw[Ω J];refine Ih ?_;intros;refine KX.a8 aw (A.trans ?_ r) ⟨rfl,rfl⟩;exact ag
  | none =>
   have a2:dV n.m.Ζ F=none:=by rw[eQ,hp];rfl
   have hs:fj n.m F=if F∈n.C1.map (·.1) then 2 else 0:=by unfold fj;rw[hl];dsimp only;rw[a2];rfl
   refine Ih ?_;intros;refine R.ev (O.a8 rfl rfl) ac ?_;rw[hg];dsimp only[Option.map,Option.getD,Option.isSome];refine Ih ?_;intros;refine R.ev (O.a8 rfl rfl) ac ?_;rw[hp];dsimp only[Option.map,Option.getD,Option.isSome];refine Ih ?_;intros;refine R.ef (Ef.j6 rfl) ac ?_;rintro _ _⟨Θ,rfl,rfl⟩;refine Ih ?_;intros;refine Δ.loop (α:=List ((Int×Int)×Bool)) (λz=>z.length<=(G8 n.C1).length/\∀p∈z,p.1.1≠F) (λz=>[(1,E F),(53,al Θ)]) (λz=>ft B7 bE n.mr (G8 n.C1) Θ z::obj nb B2 [al lb,E d,E Q,E n.ω,E n.hl,.map (some n.mb),.map (some n.mp),.map (some n.mr)]::τ cu cc n.mb n.δ::ew F7 n.δ::τ cu cg n.mp n.Ζ::ew F2 n.Ζ::L) (λz=>(G8 n.C1).length - z.length) [] ⟨aC _,λp h=>iW h aD⟩ aA ag ?_;rintro z ⟨hz,a4⟩;refine Ih ?_;intros;refine R.ef (Ef.j8 rfl) ac ?_;rintro _ _ (⟨rfl,rfl,a5⟩|⟨p,rfl,rfl,a6,a9,a7⟩)
   .have U:¬F∈n.C1.map (·.1):=λq=>by
     obtain⟨k,hk,I⟩:=IY q;exact a4 (k,true) (a5.mem_iff.2 (List.mem_map.2 ⟨k,hk,rfl⟩)) I
    rw[hs,Ω U];refine Ih ?_;intros;refine KX.a8 aw ?_ ⟨rfl,rfl⟩;refine(A.at (Μ:=ft B7 bE n.mr (G8 n.C1) Θ z) A.j9).trans ?_;exact ag
   refine Ih ?_;intros;refine R.ev (O.j6 (done:=z) rfl rfl) ac ?_;by_cases a3:p.1.1=F
   .have U:F∈n.C1.map (·.1):=by
     obtain⟨k,hk,I⟩:=IY a6;exact List.mem_map.2 ⟨k,hk,by rw[<-a3,<-I]⟩
    rw[hs,μ U];refine Ih ?_;intros;refine KX.a8 aw ?_ ⟨rfl,rfl⟩;refine(A.at (Μ:=ft B7 bE n.mr (G8 n.C1) Θ (z++[p])) A.j9).trans ?_;exact ag
   .refine Ih ?_;intros;refine⟨z++[p],⟨by simp;omega,λq hq=>?_⟩,by simp;omega,aA,by exact ag⟩;rcases It hq with hq|hq
    .exact a4 q hq
    .rw[D6 hq];exact a3
end
section
open Go.V
attribute [local irreducible] Δ R GP Ο h2 GF GE O Ef A8 A CB GB V.Enters bF
def vT{L:LH}(o:D5):Λ Ε 128 #[bh (cY o)] L (C9 (.bool (dB (¬o.state=2))) L):=by
 refine Λ.bd ?_;refine Ih ?_;intros;exact KX.en ⟨rfl,rfl⟩
def vY{L:LH}(M:OA)(n c:Nat)(os:List D5)[hrd:C7 L M D5 cY 8 os](hn:n=os.length)(hl:os.length<=1000) :
  Λ Ε 186 #[ae M n c,.func (.func 128) #[] #[]] L (λv Y=>∃k:Int,v=E k/\(0<=k↔∃o∈os,¬o.state=2)/\Y = L):=by
 subst hn;refine Λ.bd ?_;refine Ih ?_;intros;refine Δ.loop (α:=Nat) (λi=>i<=os.length/\∀o∈os.take i,o.state=2) (λi=>[(0,ae M os.length c),(1,.func (.func 128) #[] #[]),(7,E (os.length:Int)),(8,E (i:Int))]) (λi=>L) (λi=>os.length - i) 0 ⟨aC _,λo h=>iW h (by rw[aU];exact aD)⟩ aA (A.refl _) ?_;rintro i ⟨hi,ha⟩;by_cases r:i<os.length
 case neg =>
  rw[aG B] at ha;refine Ih ?_;intros;refine KX.a8 aw (A.refl _) ⟨-1,rfl,⟨λh=>iW h ac,λ⟨o,ho,h⟩=>iW (ha o ho) h⟩,rfl⟩
 have a2:(i:Int).toNat=i:=B;have I:os[i]!∈os:=by rw[C5 r];exact cG r
 refine Ih ?_;intros;rw[a2];refine R.ef (Ef.c7 (first:=[]) (cap:=[]) (vs:=[bh (cY os[i]!)]) (vT os[i]!) rfl rfl) ac ?_;rintro _ _⟨rfl,rfl⟩;by_cases hs:os[i]!.state=2
 .refine Ih ?_;intros;refine⟨i+1,⟨B,λo ho=>?_⟩,B,?_,A.refl _⟩
  .rw[av r] at ho;rcases It ho with ho|ho
   .exact ha o ho
   .rw[D6 ho,<-C5 r];exact hs
  .rw[bC i];exact aA
 .refine Ih ?_;intros;refine KX.a8 aw (A.refl _) ⟨(i:Int),rfl,⟨λ_=>⟨os[i]!,I,hs⟩,λ_=>B⟩,rfl⟩
def mC{L:LH}(M:OA)(n c:Nat)(os:List D5)[hrd:C7 L M D5 cY 8 os](hn:n=os.length)(hl:os.length<=1000) :
  Λ Ε 127 #[ae M n c,.func (.func 128) #[] #[]] L (λv Y=>v=.bool (dB (∃o∈os,¬o.state=2))/\Y = L):=by
 refine Λ.bd ?_;refine Ih ?_;intros;refine R.ca (vY M n c os hn hl) ?_;rintro _ _⟨k,rfl,hk,rfl⟩;refine Ih ?_;intros;refine KX.a8 aw (A.refl _) ⟨?_,rfl⟩;refine congrArg Value.bool ?_;rw[dd,dd];exact decide_eq_decide.2 hk
end
section
open Go.V
def fC(N:eu)(F:Int):Bool :=
 (match dV N.δ F with
  | some x=>!x.dec || dB (x.told.length<x.B3.length)
  | none=>false) ||
 (match dV N.Ζ F with
  | some p=>dB (p.state=0) || dB (∃o∈p.Η,¬o.state=2)
  | none=>false)
attribute [local irreducible] Δ R GP Ο h2 GF GE O Ef A8 A CB GB V.Enters bF
abbrev Bj:=Uz [.ev 17,.ev 18,.ev 19,.ev 20]
def RS{φ ψ:Prop}(k:ψ)(h:Hid ψ->φ:=by intro k;(repeat (first|refine aa ?_|intro sh|refine Δ.dr 62 2 Bj ?_));(repeat revert sh);exact Hid.out k):φ:=h ⟨k⟩
def yK{L:LH}(nb lb:Nat)(d Q:Int)(n:E0)(F:Int)(a6:∀p∈n.Ζ,p.2.Η.length<=1000) :
  Λ Ε 66 #[al nb,E F] (a1 nb lb d Q n L) (C9 (.bool (fC n.m F)) (a1 nb lb d Q n L)):=by
 refine Λ.bd ?_;simp only[a1,cw];refine Δ.c9 (dR (b:=n.mb)) λhn=>?_;refine Δ.c9 (dR (b:=n.mp)) λhm=>?_;cases hg:List.lookup F n.δ with
 | none =>
  have hl:dV n.m.δ F=none:=by rw[fo,hg];rfl
  have I:=A.refl (a1 nb lb d Q n L);simp only[a1,cw] at I;cases hp:List.lookup F n.Ζ with
  | none =>
   have a2:dV n.m.Ζ F=none:=by rw[eQ,hp];rfl
   have hs:fC n.m F=false:=by
    unfold fC;rw[hl,a2];rfl
   rw[hs];refine RS ?_;intros;refine R.ev (O.a8 rfl rfl) ac ?_;rw[hg];dsimp only[Option.map,Option.getD,Option.isSome];refine RS ?_;intros;refine R.ev (O.a8 rfl rfl) ac ?_;rw[hp];dsimp only[Option.map,Option.getD,Option.isSome];refine RS ?_;intros;refine KX.a8 aw ?_ ⟨rfl,rfl⟩;exact ag
  | some p =>
   have a2:dV n.m.Ζ F=some p.m:=by rw[eQ,hp];rfl
   have a3:=a6 _ (bT hp)
   have hs:fC n.m F=(dB (p.state=0) || dB (∃o∈p.m.Η,¬o.state=2)):=by
    unfold fC;rw[hl,a2];rfl
   have hex:dB (∃o∈p.m.Η,¬o.state=2)=dB (∃o∈p.Η,¬o.state=2):=by
    rw[dd,dd];refine decide_eq_decide.2 ⟨λ⟨o,ho,h⟩=>?_,λ⟨o,ho,h⟩=>⟨o.m,Kg ho,h⟩⟩;obtain⟨v,hv,rfl⟩:=IY ho;exact⟨v,hv,h⟩
   have r:=iB (nb:=nb) (lb:=lb) (d:=d) (Q:=Q) (L:=L) hm hp p rfl;rw[iJ hp hm] at r;simp only[a1,cw,Ku,J2] at r;rw[hs,hex];refine Δ.υ (A.at (Μ:=ew F2 n.Ζ) (lI hm hp)) ?_;simp only[Ku,J2];by_cases hz:p.state=0
   .rw[bI hz,Bool.true_or];refine RS ?_;intros;refine R.ev (O.a8 rfl rfl) ac ?_;rw[hg];dsimp only[Option.map,Option.getD,Option.isSome];refine RS ?_;intros;refine R.ev (O.a8 rfl rfl) ac ?_;rw[hp];dsimp only[Option.map,Option.getD,Option.isSome,cg];refine RS ?_;intros;refine KX.a8 aw (A.trans ?_ r) ⟨rfl,rfl⟩;exact ag
   .rw[bj hz,Bool.false_or];refine RS ?_;intros;refine R.ev (O.a8 rfl rfl) ac ?_;rw[hg];dsimp only[Option.map,Option.getD,Option.isSome];refine RS ?_;intros;refine R.ev (O.a8 rfl rfl) ac ?_;rw[hp];dsimp only[Option.map,Option.getD,Option.isSome,cg];refine RS ?_;intros;refine R.cr (mC p.ad p.Η.length p.fe p.Η rfl a3) ?_;refine RS ?_;intros;refine KX.a8 aw (A.trans ?_ r) ⟨rfl,rfl⟩;exact ag
 | some x =>
  have hl:dV n.m.δ F=some x.m:=by rw[fo,hg];rfl
  have I:=jy (nb:=nb) (lb:=lb) (d:=d) (Q:=Q) (L:=L) hn hg x rfl;rw[iJ hg hn] at I;simp only[a1,cw,J8,Jn] at I;refine Δ.υ (A.at (Μ:=ew F7 n.δ) (oX hn hg)) ?_;simp only[J8,Jn];cases hd:x.dec with
  | false =>
   rw[hd] at I
   have hs:fC n.m F=true:=by
    unfold fC;rw[hl];simp[show x.m.dec=false from hd]
   rw[hs];refine RS ?_;intros;refine R.ev (O.a8 rfl rfl) ac ?_;rw[hg];dsimp only[Option.map,Option.getD,Option.isSome,cc];refine RS ?_;intros;refine KX.a8 aw (A.trans ?_ I) ⟨rfl,rfl⟩;exact ag
  | true =>
   rw[hd] at I
   have hX:∀ξ:LH,A (τ cu cc n.mb n.δ::J8 x (ew F7 (GO n.δ F)::ξ)) (τ cu cc n.mb n.δ::ew F7 n.δ::ξ):=λξ=>by
    have h:=sD (L:=ξ) hn hg x rfl;rw[iJ hg hn] at h;exact h
   simp only[J8,Jn,hd] at hX;by_cases a4:x.told.length<x.B3.length
   .have a5 : (x.told.length:Int)<(x.B3.length:Int):=B
    have hs:fC n.m F=true:=by
     unfold fC;rw[hl];simp[show x.m.dec=true from hd,bI (show x.m.told.length<x.m.B3.length from a4)]
    rw[hs];refine RS ?_;intros;refine R.ev (O.a8 rfl rfl) ac ?_;rw[hg];dsimp only[Option.map,Option.getD,Option.isSome,cc];refine RS ?_;intros;refine Ο.Js (O.OP rfl) ac ?_;rw[mR];refine RS ?_;intros;refine KX.a8 aw (A.trans ?_ I) ⟨rfl,rfl⟩;exact ag
   .have a5 : ¬(x.told.length:Int)<(x.B3.length:Int):=B;cases hp:List.lookup F n.Ζ with
    | none =>
     have a2:dV n.m.Ζ F=none:=by rw[eQ,hp];rfl
     have hs:fC n.m F=false:=by
      unfold fC;rw[hl,a2];dsimp only;rw[show x.m.dec=true from hd,bj (show ¬x.m.told.length<x.m.B3.length from a4)];rfl
     rw[hs];refine RS ?_;intros;refine R.ev (O.a8 rfl rfl) ac ?_;rw[hg];dsimp only[Option.map,Option.getD,Option.isSome,cc];refine RS ?_;intros;refine Ο.Js (O.OP rfl) ac ?_;rw[mR];refine RS ?_;intros;refine R.υ (A.trans ?_ (hX (obj nb B2 [al lb,E d,E Q,E n.ω,E n.hl,.map (some n.mb),.map (some n.mp),.map (some n.mr)]::τ cu cg n.mp n.Ζ::ew F2 n.Ζ::τ B7 bE n.mr (G8 n.C1)::L))) ?_
     .exact ag
     refine R.ev (O.a8 rfl rfl) ac ?_;rw[hp];dsimp only[Option.map,Option.getD,Option.isSome];refine RS ?_;intros;refine KX.a8 aw ?_ ⟨rfl,rfl⟩;exact ag
    | some p =>
     have a2:dV n.m.Ζ F=some p.m:=by rw[eQ,hp];rfl
     have a3:=a6 _ (bT hp)
     have hs:fC n.m F=(dB (p.state=0) || dB (∃o∈p.m.Η,¬o.state=2)):=by
      unfold fC;rw[hl,a2];dsimp only;rw[show x.m.dec=true from hd,bj (show ¬x.m.told.length<x.m.B3.length from a4)];rfl
     have hex:dB (∃o∈p.m.Η,¬o.state=2)=dB (∃o∈p.Η,¬o.state=2):=by
      rw[dd,dd];refine decide_eq_decide.2 ⟨λ⟨o,ho,h⟩=>?_,λ⟨o,ho,h⟩=>⟨o.m,Kg ho,h⟩⟩;obtain⟨v,hv,rfl⟩:=IY ho;exact⟨v,hv,h⟩
     have r:=iB (nb:=nb) (lb:=lb) (d:=d) (Q:=Q) (L:=L) hm hp p rfl;rw[iJ hp hm] at r;simp only[a1,cw,Ku,J2] at r;rw[hs,hex];refine Δ.υ (A.at (Μ:=ew F2 n.Ζ) (lI hm hp)) ?_;simp only[Ku,J2];by_cases hz:p.state=0
     .rw[bI hz,Bool.true_or];refine RS ?_;intros;refine R.ev (O.a8 rfl rfl) ac ?_;rw[hg];dsimp only[Option.map,Option.getD,Option.isSome,cc];refine RS ?_;intros;refine Ο.Js (O.OP rfl) ac ?_;rw[mR];refine RS ?_;intros;refine R.υ (A.trans ?_ (hX (obj nb B2 [al lb,E d,E Q,E n.ω,E n.hl,.map (some n.mb),.map (some n.mp),.map (some n.mr)]::τ cu cg n.mp n.Ζ::obj p.b JA [E p.state,E p.Φ,ae p.ad p.Η.length p.fe]::Υ cY 8 Jv p.ad p.fe p.Η::Ρ G6 p.Η::ew F2 (GO n.Ζ F)::τ B7 bE n.mr (G8 n.C1)::L))) ?_
      .exact ag
      refine R.ev (O.a8 rfl rfl) ac ?_;rw[hp];dsimp only[Option.map,Option.getD,Option.isSome,cg];refine RS ?_;intros;refine KX.a8 aw (A.trans ?_ r) ⟨rfl,rfl⟩;exact ag
     .rw[bj hz,Bool.false_or];refine RS ?_;intros;refine R.ev (O.a8 rfl rfl) ac ?_;rw[hg];dsimp only[Option.map,Option.getD,Option.isSome,cc];refine RS ?_;intros;refine Ο.Js (O.OP rfl) ac ?_;rw[mR];refine RS ?_;intros;refine R.υ (A.trans ?_ (hX (obj nb B2 [al lb,E d,E Q,E n.ω,E n.hl,.map (some n.mb),.map (some n.mp),.map (some n.mr)]::τ cu cg n.mp n.Ζ::obj p.b JA [E p.state,E p.Φ,ae p.ad p.Η.length p.fe]::Υ cY 8 Jv p.ad p.fe p.Η::Ρ G6 p.Η::ew F2 (GO n.Ζ F)::τ B7 bE n.mr (G8 n.C1)::L))) ?_
      .exact ag
      refine R.ev (O.a8 rfl rfl) ac ?_;rw[hp];dsimp only[Option.map,Option.getD,Option.isSome,cg];refine RS ?_;intros;refine R.cr (mC p.ad p.Η.length p.fe p.Η rfl a3) ?_;refine RS ?_;intros;refine KX.a8 aw (A.trans ?_ r) ⟨rfl,rfl⟩;exact ag
