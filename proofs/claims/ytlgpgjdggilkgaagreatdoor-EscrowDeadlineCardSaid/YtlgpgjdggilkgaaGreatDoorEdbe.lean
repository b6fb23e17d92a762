/- Lemmas. -/
import Derived.Test.YtlgpgjdggilkgaaGreatDoorEdbd
set_option linter.all false
set_option maxHeartbeats 4000000
namespace Go.Proofs.YtlgpgjdggilkgaaGreatDoor
section
open Go.V
def dO(N:ω)(r:Int):Int:=match ε N.Ψ r with
 | some x=>if x.dec=false then 1 else if x.F4=true then 2 else 3
 | none=>match ε N.Γ r with
  | some p=>if p.state=0 then 1 else if p.state=1 then 2 else 3
  | none=>if r∈N.wk.map (·.1) then 2 else 0
attribute [local irreducible] Β Y GP δ vi GF GE Z Ef C0 E CB GB V.Enters bH
def lH{L:Ι}(nb lb:Nat)(d F:Int)(n:G2)(r:Int) :
  Υ Λ 23 #[ay nb,K r] (fh nb lb d F n L) (F7 (K (dO n.m r)) (fh nb lb d F n L)):=by
 refine Υ.bd ?_;simp only[fh,hl];refine Β.c8 (eN (b:=n.mb)) λhn=>?_;refine Β.c8 (eN (b:=n.mp)) λhm=>?_;refine Β.c8 (eN (b:=n.mr)) λhr=>?_;cases hg:List.lookup r n.Ψ with
 | some x =>
  have T:ε n.m.Ψ r=some x.m:=by rw[fX,hg];rfl
  have hs:dO n.m r=if x.dec=false then 1 else if x.F4=true then 2 else 3:=by unfold dO;rw[T];rfl
  have A:=kz (nb:=nb) (lb:=lb) (d:=d) (F:=F) (L:=L) hn hg x rfl;rw[iQ hg hn] at A;simp only[fh,hl,Oj,NC] at A;rw[hs];refine Β.cM (E.at (Φ:=h2 I2 n.Ψ) (qY hn hg)) ?_;simp only[Oj,NC];refine ML ?_;intros;refine Y.ev (Z.a8 rfl rfl) ac ?_;rw[hg];dsimp only[Option.map,Option.getD,Option.isSome,cz];cases hd:x.dec with
  | false =>
   rw[hd] at A;refine ML ?_;intros;first|rw[show(!false)=true from rfl]|skip
   refine ML ?_;intros;refine KX.a8 aC (E.trans ?_ A) ⟨rfl,rfl⟩;exact aj
  | true =>
   rw[hd] at A;cases ht:x.F4 with
   | false =>
    rw[ht] at A;refine ML ?_;intros;refine KX.a8 aC (E.trans ?_ A) ⟨rfl,rfl⟩;exact aj
   | true =>
    rw[ht] at A;refine ML ?_;intros;refine KX.a8 aC (E.trans ?_ A) ⟨rfl,rfl⟩;exact aj
 | none =>
  have T:ε n.m.Ψ r=none:=by rw[fX,hg];rfl
  cases hp:List.lookup r n.Γ with
  | some p =>
   have a2:ε n.m.Γ r=some p.m:=by rw[fN,hp];rfl
   have hs:dO n.m r=if p.state=0 then 1 else if p.state=1 then 2 else 3:=by unfold dO;rw[T];dsimp only;rw[a2];rfl
   have A:=jo (nb:=nb) (lb:=lb) (d:=d) (F:=F) (L:=L) hm hp p rfl;rw[iQ hp hm] at A;simp only[fh,hl,OU,Of] at A;rw[hs];refine Β.cM (E.at (Φ:=h2 H6 n.Γ) (nk hm hp)) ?_;simp only[OU,Of];refine ML ?_;intros;refine Y.ev (Z.a8 rfl rfl) ac ?_;rw[hg];dsimp only[Option.map,Option.getD,Option.isSome];refine ML ?_;intros;refine Y.ev (Z.a8 rfl rfl) ac ?_;rw[hp];dsimp only[Option.map,Option.getD,Option.isSome,cC];by_cases h0:p.state=0
   .rw[Ω h0];refine ML ?_;intros;refine KX.a8 aC (E.trans ?_ A) ⟨rfl,rfl⟩;exact aj
   .rw[Ο h0];by_cases I:p.state=1
    .rw[Ω I];refine ML ?_;intros;refine KX.a8 aC (E.trans ?_ A) ⟨rfl,rfl⟩;exact aj
    .rw[Ο I];refine ML ?_;intros;refine KX.a8 aC (E.trans ?_ A) ⟨rfl,rfl⟩;exact aj
  | none =>
   have a2:ε n.m.Γ r=none:=by rw[fN,hp];rfl
   have hs:dO n.m r=if r∈n.wk.map (·.1) then 2 else 0:=by unfold dO;rw[T];dsimp only;rw[a2];rfl
   refine ML ?_;intros;refine Y.ev (Z.a8 rfl rfl) ac ?_;rw[hg];dsimp only[Option.map,Option.getD,Option.isSome];refine ML ?_;intros;refine Y.ev (Z.a8 rfl rfl) ac ?_;rw[hp];dsimp only[Option.map,Option.getD,Option.isSome];refine ML ?_;intros;refine Y.ef (Ef.j5 rfl) ac ?_;rintro _ _⟨Δ,rfl,rfl⟩;refine ML ?_;intros;refine Β.loop (α:=List ((Int×Int)×Bool)) (λz=>z.length<=(J7 n.wk).length/\∀p∈z,p.1.1≠r) (λz=>[(1,K r),(53,ay Δ)]) (λz=>fZ D6 bM n.mr (J7 n.wk) Δ z::obj nb C5 [ay lb,K d,K F,K n.ν,K n.T,.map (some n.mb),.map (some n.mp),.map (some n.mr)]::ew gT cz n.mb n.Ψ::h2 I2 n.Ψ::ew gT cC n.mp n.Γ::h2 H6 n.Γ::L) (λz=>(J7 n.wk).length - z.length) [] ⟨aD _,λp h=>iJ h aH⟩ aG aj ?_;rintro z ⟨hz,a4⟩;refine ML ?_;intros;refine Y.ef (Ef.j8 rfl) ac ?_;rintro _ _ (⟨rfl,rfl,a5⟩|⟨p,rfl,rfl,a6,a9,a7⟩)
   .have Q:¬r∈n.wk.map (·.1):=λq=>by
     obtain⟨k,hk,J⟩:=H8 q;exact a4 (k,true) (a5.mem_iff.2 (List.mem_map.2 ⟨k,hk,rfl⟩)) J
    rw[hs,Ο Q];refine ML ?_;intros;refine KX.a8 aC ?_ ⟨rfl,rfl⟩;refine(E.at (Φ:=fZ D6 bM n.mr (J7 n.wk) Δ z) E.j9).trans ?_;exact aj
   refine ML ?_;intros;refine Y.ev (Z.j7 (done:=z) rfl rfl) ac ?_;by_cases a3:p.1.1=r
   .have Q:r∈n.wk.map (·.1):=by
     obtain⟨k,hk,J⟩:=H8 a6;exact List.mem_map.2 ⟨k,hk,by rw[<-a3,<-J]⟩
    rw[hs,Ω Q];refine ML ?_;intros;refine KX.a8 aC ?_ ⟨rfl,rfl⟩;refine(E.at (Φ:=fZ D6 bM n.mr (J7 n.wk) Δ (z++[p])) E.j9).trans ?_;exact aj
   .refine ML ?_;intros;refine⟨z++[p],⟨by simp;omega,λq hq=>?_⟩,by simp;omega,aG,by exact aj⟩;rcases J4 hq with hq|hq
    .exact a4 q hq
    .rw[GO hq];exact a3
end
section
open Go.V
attribute [local irreducible] Β Y GP δ vi GF GE Z Ef C0 E CB GB V.Enters bH
def zn{L:Ι}(o:E9):Υ Λ 128 #[bC (dy o)] L (F7 (.bool (dB (¬o.state=2))) L):=by
 refine Υ.bd ?_;refine ML ?_;intros;exact KX.en ⟨rfl,rfl⟩
def zu{L:Ι}(ad:OA)(n c:Nat)(os:List E9)[hrd:F5 L ad E9 dy 8 os](hn:n=os.length)(T:os.length<=1000) :
  Υ Λ 186 #[ae ad n c,.func (.func 128) #[] #[]] L (λv Ε=>∃k:Int,v=K k/\(0<=k↔∃o∈os,¬o.state=2)/\Ε = L):=by
 subst hn;refine Υ.bd ?_;refine ML ?_;intros;refine Β.loop (α:=Nat) (λi=>i<=os.length/\∀o∈os.take i,o.state=2) (λi=>[(0,ae ad os.length c),(1,.func (.func 128) #[] #[]),(7,K (os.length:Int)),(8,K (i:Int))]) (λi=>L) (λi=>os.length - i) 0 ⟨aD _,λo h=>iJ h (by rw[bA];exact aH)⟩ aG (E.refl _) ?_;rintro i ⟨hi,ha⟩;by_cases A:i<os.length
 case neg =>
  rw[aN D] at ha;refine ML ?_;intros;refine KX.a8 aC (E.refl _) ⟨-1,rfl,⟨λh=>iJ h ac,λ⟨o,ho,h⟩=>iJ (ha o ho) h⟩,rfl⟩
 have a2:(i:Int).toNat=i:=D;have J:os[i]!∈os:=by rw[E7 A];exact cY A
 refine ML ?_;intros;rw[a2];refine Y.ef (Ef.c7 (first:=[]) (cap:=[]) (vs:=[bC (dy os[i]!)]) (zn os[i]!) rfl rfl) ac ?_;rintro _ _⟨rfl,rfl⟩;by_cases hs:os[i]!.state=2
 .refine ML ?_;intros;refine⟨i+1,⟨D,λo ho=>?_⟩,D,?_,E.refl _⟩
  .rw[aB A] at ho;rcases J4 ho with ho|ho
   .exact ha o ho
   .rw[GO ho,<-E7 A];exact hs
  .rw[bJ i];exact aG
 .refine ML ?_;intros;refine KX.a8 aC (E.refl _) ⟨(i:Int),rfl,⟨λ_=>⟨os[i]!,J,hs⟩,λ_=>D⟩,rfl⟩
def od{L:Ι}(ad:OA)(n c:Nat)(os:List E9)[hrd:F5 L ad E9 dy 8 os](hn:n=os.length)(T:os.length<=1000) :
  Υ Λ 127 #[ae ad n c,.func (.func 128) #[] #[]] L (λv Ε=>v=.bool (dB (∃o∈os,¬o.state=2))/\Ε = L):=by
 refine Υ.bd ?_;refine ML ?_;intros;refine Y.ca (zu ad n c os hn T) ?_;rintro _ _⟨k,rfl,hk,rfl⟩;refine ML ?_;intros;refine KX.a8 aC (E.refl _) ⟨?_,rfl⟩;refine congrArg Value.bool ?_;rw[dF,dF];exact decide_eq_decide.2 hk
end
section
open Go.V
def ge(N:ω)(r:Int):Bool :=
 (match ε N.Ψ r with
  | some x=>!x.dec || dB (x.told.length<x.lq.length)
  | none=>false) ||
 (match ε N.Γ r with
  | some p=>dB (p.state=0) || dB (∃o∈p.Α,¬o.state=2)
  | none=>false)
attribute [local irreducible] Β Y GP δ vi GF GE Z Ef C0 E CB GB V.Enters bH
abbrev Eg:=Yw [.ev 17,.ev 18,.ev 19,.ev 20]
def Wa{φ ψ:Prop}(k:ψ)(h:Hid ψ->φ:=by intro k;(repeat (first|refine ab ?_|intro B8|refine Β.dr 62 2 Eg ?_));(repeat revert B8);exact Hid.out k):φ:=h ⟨k⟩
def BN{L:Ι}(nb lb:Nat)(d F:Int)(n:G2)(r:Int)(a6:∀p∈n.Γ,p.2.Α.length<=1000) :
  Υ Λ 66 #[ay nb,K r] (fh nb lb d F n L) (F7 (.bool (ge n.m r)) (fh nb lb d F n L)):=by
 refine Υ.bd ?_;simp only[fh,hl];refine Β.c8 (eN (b:=n.mb)) λhn=>?_;refine Β.c8 (eN (b:=n.mp)) λhm=>?_;cases hg:List.lookup r n.Ψ with
 | none =>
  have T:ε n.m.Ψ r=none:=by rw[fX,hg];rfl
  have J:=E.refl (fh nb lb d F n L);simp only[fh,hl] at J;cases hp:List.lookup r n.Γ with
  | none =>
   have a2:ε n.m.Γ r=none:=by rw[fN,hp];rfl
   have hs:ge n.m r=false:=by
    unfold ge;rw[T,a2];rfl
   rw[hs];refine Wa ?_;intros;refine Y.ev (Z.a8 rfl rfl) ac ?_;rw[hg];dsimp only[Option.map,Option.getD,Option.isSome];refine Wa ?_;intros;refine Y.ev (Z.a8 rfl rfl) ac ?_;rw[hp];dsimp only[Option.map,Option.getD,Option.isSome];refine Wa ?_;intros;refine KX.a8 aC ?_ ⟨rfl,rfl⟩;exact aj
  | some p =>
   have a2:ε n.m.Γ r=some p.m:=by rw[fN,hp];rfl
   have a3:=a6 _ (bR hp)
   have hs:ge n.m r=(dB (p.state=0) || dB (∃o∈p.m.Α,¬o.state=2)):=by
    unfold ge;rw[T,a2];rfl
   have hex:dB (∃o∈p.m.Α,¬o.state=2)=dB (∃o∈p.Α,¬o.state=2):=by
    rw[dF,dF];refine decide_eq_decide.2 ⟨λ⟨o,ho,h⟩=>?_,λ⟨o,ho,h⟩=>⟨o.m,O6 ho,h⟩⟩;obtain⟨v,hv,rfl⟩:=H8 ho;exact⟨v,hv,h⟩
   have A:=jo (nb:=nb) (lb:=lb) (d:=d) (F:=F) (L:=L) hm hp p rfl;rw[iQ hp hm] at A;simp only[fh,hl,OU,Of] at A;rw[hs,hex];refine Β.cM (E.at (Φ:=h2 H6 n.Γ) (nk hm hp)) ?_;simp only[OU,Of];by_cases hz:p.state=0
   .rw[bO hz,Bool.true_or];refine Wa ?_;intros;refine Y.ev (Z.a8 rfl rfl) ac ?_;rw[hg];dsimp only[Option.map,Option.getD,Option.isSome];refine Wa ?_;intros;refine Y.ev (Z.a8 rfl rfl) ac ?_;rw[hp];dsimp only[Option.map,Option.getD,Option.isSome,cC];refine Wa ?_;intros;refine KX.a8 aC (E.trans ?_ A) ⟨rfl,rfl⟩;exact aj
   .rw[bz hz,Bool.false_or];refine Wa ?_;intros;refine Y.ev (Z.a8 rfl rfl) ac ?_;rw[hg];dsimp only[Option.map,Option.getD,Option.isSome];refine Wa ?_;intros;refine Y.ev (Z.a8 rfl rfl) ac ?_;rw[hp];dsimp only[Option.map,Option.getD,Option.isSome,cC];refine Wa ?_;intros;refine Y.cr (od p.bD p.Α.length p.id p.Α rfl a3) ?_;refine Wa ?_;intros;refine KX.a8 aC (E.trans ?_ A) ⟨rfl,rfl⟩;exact aj
 | some x =>
  have T:ε n.m.Ψ r=some x.m:=by rw[fX,hg];rfl
  have J:=kz (nb:=nb) (lb:=lb) (d:=d) (F:=F) (L:=L) hn hg x rfl;rw[iQ hg hn] at J;simp only[fh,hl,Oj,NC] at J;refine Β.cM (E.at (Φ:=h2 I2 n.Ψ) (qY hn hg)) ?_;simp only[Oj,NC];cases hd:x.dec with
  | false =>
   rw[hd] at J
   have hs:ge n.m r=true:=by
    unfold ge;rw[T];simp[show x.m.dec=false from hd]
   rw[hs];refine Wa ?_;intros;refine Y.ev (Z.a8 rfl rfl) ac ?_;rw[hg];dsimp only[Option.map,Option.getD,Option.isSome,cz];refine Wa ?_;intros;refine KX.a8 aC (E.trans ?_ J) ⟨rfl,rfl⟩;exact aj
  | true =>
   rw[hd] at J
   have hX:∀ο:Ι,E (ew gT cz n.mb n.Ψ::Oj x (h2 I2 (I1 n.Ψ r)::ο)) (ew gT cz n.mb n.Ψ::h2 I2 n.Ψ::ο):=λο=>by
    have h:=vJ (L:=ο) hn hg x rfl;rw[iQ hg hn] at h;exact h
   simp only[Oj,NC,hd] at hX;by_cases a4:x.told.length<x.lq.length
   .have a5 : (x.told.length:Int)<(x.lq.length:Int):=D
    have hs:ge n.m r=true:=by
     unfold ge;rw[T];simp[show x.m.dec=true from hd,bO (show x.m.told.length<x.m.lq.length from a4)]
    rw[hs];refine Wa ?_;intros;refine Y.ev (Z.a8 rfl rfl) ac ?_;rw[hg];dsimp only[Option.map,Option.getD,Option.isSome,cz];refine Wa ?_;intros;refine δ.NV (Z.TM rfl) ac ?_;rw[oE];refine Wa ?_;intros;refine KX.a8 aC (E.trans ?_ J) ⟨rfl,rfl⟩;exact aj
   .have a5 : ¬(x.told.length:Int)<(x.lq.length:Int):=D;cases hp:List.lookup r n.Γ with
    | none =>
     have a2:ε n.m.Γ r=none:=by rw[fN,hp];rfl
     have hs:ge n.m r=false:=by
      unfold ge;rw[T,a2];dsimp only;rw[show x.m.dec=true from hd,bz (show ¬x.m.told.length<x.m.lq.length from a4)];rfl
     rw[hs];refine Wa ?_;intros;refine Y.ev (Z.a8 rfl rfl) ac ?_;rw[hg];dsimp only[Option.map,Option.getD,Option.isSome,cz];refine Wa ?_;intros;refine δ.NV (Z.TM rfl) ac ?_;rw[oE];refine Wa ?_;intros;refine Y.cM (E.trans ?_ (hX (obj nb C5 [ay lb,K d,K F,K n.ν,K n.T,.map (some n.mb),.map (some n.mp),.map (some n.mr)]::ew gT cC n.mp n.Γ::h2 H6 n.Γ::ew D6 bM n.mr (J7 n.wk)::L))) ?_
     .exact aj
     refine Y.ev (Z.a8 rfl rfl) ac ?_;rw[hp];dsimp only[Option.map,Option.getD,Option.isSome];refine Wa ?_;intros;refine KX.a8 aC ?_ ⟨rfl,rfl⟩;exact aj
    | some p =>
     have a2:ε n.m.Γ r=some p.m:=by rw[fN,hp];rfl
     have a3:=a6 _ (bR hp)
     have hs:ge n.m r=(dB (p.state=0) || dB (∃o∈p.m.Α,¬o.state=2)):=by
      unfold ge;rw[T,a2];dsimp only;rw[show x.m.dec=true from hd,bz (show ¬x.m.told.length<x.m.lq.length from a4)];rfl
     have hex:dB (∃o∈p.m.Α,¬o.state=2)=dB (∃o∈p.Α,¬o.state=2):=by
      rw[dF,dF];refine decide_eq_decide.2 ⟨λ⟨o,ho,h⟩=>?_,λ⟨o,ho,h⟩=>⟨o.m,O6 ho,h⟩⟩;obtain⟨v,hv,rfl⟩:=H8 ho;exact⟨v,hv,h⟩
     have A:=jo (nb:=nb) (lb:=lb) (d:=d) (F:=F) (L:=L) hm hp p rfl;rw[iQ hp hm] at A;simp only[fh,hl,OU,Of] at A;rw[hs,hex];refine Β.cM (E.at (Φ:=h2 H6 n.Γ) (nk hm hp)) ?_;simp only[OU,Of];by_cases hz:p.state=0
     .rw[bO hz,Bool.true_or];refine Wa ?_;intros;refine Y.ev (Z.a8 rfl rfl) ac ?_;rw[hg];dsimp only[Option.map,Option.getD,Option.isSome,cz];refine Wa ?_;intros;refine δ.NV (Z.TM rfl) ac ?_;rw[oE];refine Wa ?_;intros;refine Y.cM (E.trans ?_ (hX (obj nb C5 [ay lb,K d,K F,K n.ν,K n.T,.map (some n.mb),.map (some n.mp),.map (some n.mr)]::ew gT cC n.mp n.Γ::obj p.b NS [K p.state,K p.Κ,ae p.bD p.Α.length p.id]::μ dy 8 NN p.bD p.id p.Α::η I9 p.Α::h2 H6 (I1 n.Γ r)::ew D6 bM n.mr (J7 n.wk)::L))) ?_
      .exact aj
      refine Y.ev (Z.a8 rfl rfl) ac ?_;rw[hp];dsimp only[Option.map,Option.getD,Option.isSome,cC];refine Wa ?_;intros;refine KX.a8 aC (E.trans ?_ A) ⟨rfl,rfl⟩;exact aj
     .rw[bz hz,Bool.false_or];refine Wa ?_;intros;refine Y.ev (Z.a8 rfl rfl) ac ?_;rw[hg];dsimp only[Option.map,Option.getD,Option.isSome,cz];refine Wa ?_;intros;refine δ.NV (Z.TM rfl) ac ?_;rw[oE];refine Wa ?_;intros;refine Y.cM (E.trans ?_ (hX (obj nb C5 [ay lb,K d,K F,K n.ν,K n.T,.map (some n.mb),.map (some n.mp),.map (some n.mr)]::ew gT cC n.mp n.Γ::obj p.b NS [K p.state,K p.Κ,ae p.bD p.Α.length p.id]::μ dy 8 NN p.bD p.id p.Α::η I9 p.Α::h2 H6 (I1 n.Γ r)::ew D6 bM n.mr (J7 n.wk)::L))) ?_
      .exact aj
      refine Y.ev (Z.a8 rfl rfl) ac ?_;rw[hp];dsimp only[Option.map,Option.getD,Option.isSome,cC];refine Wa ?_;intros;refine Y.cr (od p.bD p.Α.length p.id p.Α rfl a3) ?_;refine Wa ?_;intros;refine KX.a8 aC (E.trans ?_ A) ⟨rfl,rfl⟩;exact aj
end
section
open Go.V
def kh(a:Int):Prop:=1<=a/\a<=1073741824
noncomputable instance (a:Int):Decidable (kh a):=Classical.propDecidable _
attribute [local irreducible] Β Y GP δ vi GF GE Z Ef C0 E CB GB V.Enters bH
def Ah{L:Ι}(ad:OA)(n c:Nat)(G:List (Int×Int))[F5 L ad (Int×Int) eh 2 G](hn:n=G.length)(hb:n<=1000000) :
  Υ Λ 168 #[ae ad n c] L (λv Ε=>∃J A,v=ae J G.length A/\Ε = μ eh 2 67 J A G::L):=by
 refine Υ.bd ?_;repeat' first|refine ab ?_|intro _|with_reducible refine CB.dec (λ_=>?_) (λ_=>?_)|with_reducible refine GB.dec (λ_=>?_) (λ_=>?_)|with_reducible refine CB.bool (λ_=>?_) (λ_=>?_)|with_reducible refine GB.bool (λ_=>?_) (λ_=>?_)
 .have h:ad=none:=by assumption
  subst h;refine KX.f9 (.inl rfl) (oI (L:=L) (G:=G)) ?_;intro M;subst M;refine KX.a8 aC (E.c8 eh 2 67) ⟨_,_,rfl,rfl⟩
 .refine Y.cM (E.d9 (Η:=eh) (sz:=2) (G:=[]) rfl rfl cg cg) ?_;refine Y.ef (Ef.c9 rfl rfl rfl rfl hn (λe _=>mf e) ib ib) ac ?_;rintro _ _⟨J,A,rfl,rfl⟩;refine ML ?_;intros;refine KX.a8 aC (E.refl _) ⟨J,A,rfl,rfl⟩
def qM{L:Ι}(a:Int):Υ Λ 167 #[K a] L (F7 (.bool (dB (kh a))) L):=by
 refine Υ.bd ?_;by_cases h0:1<=a
 .by_cases I:a<=1073741824
  .rw[bO (show kh a from⟨h0,I⟩)];refine ML ?_;intros;refine KX.a8 aC (E.refl _) ⟨?_,rfl⟩;exact congrArg Value.bool (bO I)
  .rw[bz (show ¬kh a from λq=>I q.2)];refine ML ?_;intros;refine KX.a8 aC (E.refl _) ⟨?_,rfl⟩;exact congrArg Value.bool (bz I)
 .rw[bz (show ¬kh a from λq=>h0 q.1)];refine ML ?_;intros;exact KX.en ⟨rfl,rfl⟩
def Ae{L:Ι}(l:MT)(T:l.m.am.length<=1000):Υ Λ 111 #[bC (aZ l)] (ms l::L) (λv Ε=>∃l' : MT,v=bC (aZ l')/\l'.m=l.m/\Ε = ms l'::ms l::L):=by
 refine Υ.bd ?_;refine ML ?_;intros;refine Y.ca (Ah l.ad l.m.am.length l.cap l.m.am rfl D) ?_;rintro _ _⟨J,A,rfl,rfl⟩;refine ML ?_;intros;refine KX.a8 (by exact C9.cell rfl aY (C9.nil)) ?_ ⟨⟨l.m,J,A⟩,rfl,rfl,rfl⟩;refine(E.at (Φ:=μ eh 2 Qh J A l.m.am) E.NZ).trans ?_;exact aj
def Xv:MT:=⟨⟨0,0,0,0,[]⟩,none,0⟩
def zW{L:Ι}(ad:OA)(c:Nat)(ls:List MT)[hrd:F5 (η ms ls::L) ad MT aZ 5 ls](T:ls.length<=1000)(hp:∀l∈ls,l.m.am.length<=1000) :
  Υ Λ 110 #[ae ad ls.length c,.func (.func 111) #[] #[]] (η ms ls::L) (λv Ε=>∃a3 c' J,v=ae a3 J.length c'/\J.map (·.m)=ls.map (·.m)/\Ε = μ aZ 5 Pv a3 c' J::η ms J::η ms ls::L):=by
 refine Υ.bd ?_;by_cases h0:ls.length=0
 .have e:ls=[]:=cc h0;subst e;refine ML ?_;intros;exact KX.a8 aC ((E.c7 ms).trans (E.c8 aZ 5 Pv)) ⟨none,0,[],rfl,rfl,rfl⟩
 refine ML ?_;intros;refine Y.ef (Ef.j7 aZ Xv rfl rfl rfl D D D D) ac ?_;rintro _ _⟨bs,rfl,rfl⟩;rw[show(ls.length:Int).toNat=ls.length by omega];refine ML ?_;intros
 refine Β.loop (α:=Nat×List MT) (λz=>z.1<=ls.length/\z.2.length=ls.length/\(z.2.take z.1).map (·.m)=(ls.take z.1).map (·.m)) (λz=>[(1,.func (.func 111) #[] #[]),(5,ae (some ⟨bs,0,none⟩) ls.length ls.length),(14,ae ad ls.length c),(15,K (ls.length:Int)),(16,K (z.1:Int))])
  (λz=>μ aZ 5 Pv (some ⟨bs,0,none⟩) ls.length z.2::η ms (z.2.take z.1)::η ms ls::L) (λz=>ls.length - z.1) (0,List.replicate ls.length Xv) ⟨aD _,by simp,by simp⟩ aG ?_ ?_
 .dsimp only;rw[bA];refine(E.c7 ms).trans ?_;exact aj
 rintro⟨i,zs⟩ ⟨hi,a6,A⟩;dsimp only at hi a6 A ⊢;by_cases a2:i<ls.length
 case neg =>
  have a7:i=ls.length:=D;subst a7;rw[aN D,aN D] at A;rw[aN (D:zs.length<=ls.length)];refine ML ?_;intros;refine KX.a8 aC (E.refl _) ⟨some ⟨bs,0,none⟩,ls.length,zs,by rw[a6];rfl,A,rfl⟩
 have a4:(i:Int).toNat=i:=D;have a5:ls[i]!∈ls:=bI a2;have b0:=hp _ a5;refine ML ?_;intros;rename_i b7;rw[a4];refine Y.cM (Ε:=ms ls[i]!::(μ aZ 5 Pv (some ⟨bs,0,none⟩) ls.length zs::η ms (zs.take i)::η ms ls::L)) ((E.at (Φ:=η ms ls) (E.d8 (f:=ms) a5)).trans aj) ?_;refine Y.ef (Ef.c7 (first:=[]) (cap:=[]) (vs:=[bC (aZ ls[i]!)]) (Ae ls[i]! b0) rfl rfl) ac ?_;rintro _ _⟨m',rfl,a9,rfl⟩;refine ML ?_;intros;refine Y.No (Ef.k8 (e:=m') rfl rfl aY aY (li _) D) ?_;rintro _ _ rfl;rw[a4];refine ML ?_;intros;refine⟨(i+1,zs.set i m'),⟨by dsimp only;omega,by dsimp only;simp;omega,?_⟩,by dsimp only;omega,?_,?_⟩
 .dsimp only;rw[iO D,aB a2,aQ,aQ,A,<-E7 a2];simp[a9]
 .dsimp only;rw[bJ i];exact aG
 .dsimp only;rw[iO D];refine(E.at (Φ:=ms m') (E.d7 (f:=ms) fx)).trans ?_;refine(E.at (Φ:=η ms [m']) (E.refl _)).trans ?_;refine(E.at (Φ:=η ms (zs.take i)) (E.refl _)).trans ?_;refine(E.c9 (f:=ms) fx).trans ?_;exact aj
end
section
open Go.V
def Sx(n:Int)(a:Int×Int):Prop:=0<=a.1/\a.1<n/\1<=a.2/\a.2<=1099511627776
def Ra(n:Int):Int->List (Int×Int)->Prop
 | _,[]=>True
 | p,a::l=>Sx n a/\p<a.1/\Ra n a.1 l
noncomputable instance (n:Int) (a:Int×Int):Decidable (Sx n a):=Classical.propDecidable _
noncomputable instance (n p:Int) (l:List (Int×Int)):Decidable (Ra n p l):=Classical.propDecidable _
def rI(l:List (Int×Int))(i:Nat):Int:=if i=0 then -1 else l[i - 1]!.1
structure Ut (F n:Int) (l:x4):Prop where
 d:0<=l.d/\l.d<F
 ts:0<=l.ts/\l.ts<F
 fr:kh l.fr
 to:kh l.to
 ne:¬l.am.length=0
 Wo:Ra n (-1) l.am
def jE(F n:Int)(ls:List x4):Prop:=(1<=ls.length/\ls.length<=32)/\∀l∈ls,Ut F n l
noncomputable instance (F n:Int) (ls:List x4):Decidable (jE F n ls):=Classical.propDecidable _
attribute [local irreducible] Β Y GP δ vi GF GE Z Ef C0 E CB GB V.Enters bH
def AJ{L:Ι}(n:Int)(a:Int×Int):Υ Λ 129 #[K n,bC (eh a)] L (F7 (.bool (dB (Sx n a))) L):=by
 by_cases I:0<=a.1
 .by_cases Q:a.1<n
  .by_cases h3:1<=a.2
   .have e:dB (Sx n a)=dB (a.2<=1099511627776):=by
     by_cases h4:a.2<=1099511627776
     .rw[bO h4,bO ⟨I,Q,h3,h4⟩]
     .rw[bz h4,bz λq=>h4 q.2.2.2]
    rw[e];refine Υ.bd ?_;refine ML ?_;intros;exact KX.en ⟨rfl,rfl⟩
   .rw[bz (show ¬Sx n a from λq=>h3 q.2.2.1)];refine Υ.bd ?_;refine ML ?_;intros;exact KX.en ⟨rfl,rfl⟩
  .rw[bz (show ¬Sx n a from λq=>Q q.2.1)];refine Υ.bd ?_;refine ML ?_;intros;exact KX.en ⟨rfl,rfl⟩
 .rw[bz (show ¬Sx n a from λq=>I q.1)];refine Υ.bd ?_;refine ML ?_;intros;exact KX.en ⟨rfl,rfl⟩
theorem xn{L:Ι}(n:Int)(hn:0<=n/\n<=64)(ad:OA)(m c:Nat)(l:List (Int×Int))[hrd:F5 L ad (Int×Int) eh 2 l](hm:m=l.length)(T:l.length<=1000) :
  Υ Λ 69 #[K n,ae ad m c] L (F7 (.bool (dB (Ra n (-1) l))) L):=by
 subst hm;have e1:¬n<0:=D;have e2:¬n>64:=D;refine Υ.bd ?_;refine ML ?_;intros;refine Β.loop (α:=Nat) (λi=>i<=l.length/\(Ra n (-1) l↔Ra n (rI l i) (l.drop i))) (λi=>[(0,K n),(5,K (rI l i)),(14,ae ad l.length c),(15,K (l.length:Int)),(16,K (i:Int))]) (λi=>L) (λi=>l.length - i) 0 ⟨aD _,by rw[List.drop_zero];rfl⟩ aG (E.refl _) ?_;rintro i ⟨hi,ha⟩;by_cases A:i<l.length
 case neg =>
  have hT:Ra n (-1) l:=by
   rw[ha,bV D];trivial
  rw[bO hT];refine ML ?_;intros;exact KX.en ⟨rfl,rfl⟩
 have a2:(i:Int).toNat=i:=D
 have J:Ra n (rI l i) (l.drop i)↔(Sx n l[i]!/\rI l i<l[i]!.1/\Ra n l[i]!.1 (l.drop (i+1))):=by
  rw[bZ A,<-E7 A];rfl
 have a3:rI l (i+1)=l[i]!.1:=rfl;rw[J] at ha;generalize rI l i=p at *;refine ML ?_;intros;rename_i b7;rw[a2];refine Y.cM (Ε:=obj b7 67 (eh l[i]!)::L) aj ?_;refine Y.cr (AJ n l[i]!) ?_;by_cases I:Sx n l[i]!
 case neg =>
  have hF:¬Ra n (-1) l:=ah;rw[bz hF,bz I];refine ML ?_;intros;exact KX.en ⟨rfl,rfl⟩
 rw[bO I];by_cases Q:p<l[i]!.1
 case neg =>
  have hF:¬Ra n (-1) l:=ah;have h3:l[i]!.1<=p:=D;rw[bz hF];simp only[eh];refine ML ?_;intros;exact KX.en ⟨rfl,rfl⟩
 have h3:¬l[i]!.1<=p:=D;simp only[eh];refine ML ?_;intros;refine⟨i+1,⟨D,?_⟩,D,?_,by exact aj⟩
 .grind
 .rw[bJ i,a3];exact aG
def Fi{L:Ι}(b:Nat)(S:Τ) :
  Υ Λ 166 #[ay b] (aT b S::L) (λv Ε=>∃c' : K9,v=.agg c'.cells.toArray/\(c'.m=S.υ/\c'.hx)/\Ε = aT b S::L):=by
 refine Υ.bd ?_;refine Β.c9 (f:=jW b S) ?_;intro x;simp only[jW,E1,cJ,aq,av];refine Β.d7 ?_;intro hF;refine ML ?_;intros;refine Y.cM (E.at (Φ:=Oc x.υ) (E.refl _)) ?_;refine Y.ca (qj x.υ hF.Ul) ?_;rintro _ _⟨c',rfl,A,rfl⟩;simp only[K9.cells];refine ML ?_;intros;refine KX.a8 (by exact C9.cell rfl aY (C9.nil)) ?_ ⟨c',rfl,⟨A.trans hF.υ,K9.a8 A hF.Ul⟩,rfl⟩;refine E.drop.trans (E.drop.trans ?_);refine E.trans ?_ (je x hF);simp only[E1,cJ];exact aj
def xf{L:Ι}(nb lb:Nat)(d F ν T:Int)(mb mp mr:Nat)(S:Τ)(hc:S.υ.B7.length<=64)(ad:OA)(m c:Nat)(ls:List MT)(hm:m=ls.length)(b2:ls.length<=1000)(a7:∀l∈ls,l.m.am.length<=1000) :
  Υ Λ 109 #[ay nb,ae ad m c] (obj nb C5 (hl lb d F ν T mb mp mr)::aT lb S::τ aZ 5 ad ls::η ms ls::L) (F7 (.bool (dB (jE F S.υ.B7.length (ls.map (·.m))))) (obj nb C5 (hl lb d F ν T mb mp mr)::aT lb S::τ aZ 5 ad ls::η ms ls::L)):=by
 subst hm;have b4:(ls.map (·.m)).length=ls.length:=ak _;generalize hN:(S.υ.B7.length:Int)=N;have a6:0<=N/\N<=64:=D;have a3:=λ (k:Int) (ο:Ι)=>qL (L:=ο) nb lb d F ν T mb mp mr k;simp only[hl] at a3;refine Υ.bd ?_;simp only[hl];by_cases I:ls.length<1
 .rw[bz (show ¬jE F N (ls.map (·.m)) from λq=>by have:=q.1.1;omega)];refine ML ?_;intros;exact KX.en ⟨rfl,rfl⟩
 by_cases Q:ls.length>32
 .rw[bz (show ¬jE F N (ls.map (·.m)) from λq=>by have:=q.1.2;omega)];refine ML ?_;intros;exact KX.en ⟨rfl,rfl⟩
 refine ML ?_;intros;refine Y.cM (Ε:=aT lb S::(obj nb C5 [ay lb,K d,K F,K ν,K T,.map (some mb),.map (some mp),.map (some mr)]::τ aZ 5 ad ls::η ms ls::L)) aj ?_;refine Y.ca (Fi lb S) ?_;rintro _ _⟨cv,rfl,⟨a9,b3⟩,rfl⟩;have b1:(cv.B7.length:Int)=N:=by rw[<-hN,<-a9];rfl
 simp only[K9.cells];refine Y.ev (Z.A2 (off:=0) (fs:=Tryz.prog.fieldsOf 116) (fd:=(Tryz.prog.fieldsOf 116)[0]!) Θ Θ Θ (λ_=>Θ) rfl rfl) ac ?_;refine ML ?_;intros;rw[b1];refine Β.loop (α:=Nat) (λi=>i<=ls.length/\∀l∈ls.take i,Ut F N l.m) (λi=>[(0,ay nb),(5,K N),(23,ae ad ls.length c),(24,K (ls.length:Int)),(25,K (i:Int))]) (λi=>obj nb C5 [ay lb,K d,K F,K ν,K T,.map (some mb),.map (some mp),.map (some mr)]::aT lb S::τ aZ 5 ad ls::η ms ls::L) (λi=>ls.length - i) 0 ⟨aD _,λl h=>iJ h (by rw[bA];exact aH)⟩ aG aj ?_;rintro i ⟨hi,ha⟩;by_cases a4:i<ls.length
 case neg =>
  rw[aN D] at ha
  have hT:jE F N (ls.map (·.m)):=⟨D,λl T=>by
   obtain⟨x,M,rfl⟩:=H8 T;exact ha x M⟩
  rw[bO hT];refine ML ?_;intros;exact KX.en ⟨rfl,rfl⟩
 have b0:(i:Int).toNat=i:=D;have J:ls[i]!∈ls:=bI a4;have A:¬Ut F N ls[i]!.m->¬jE F N (ls.map (·.m)):=λh q=>h (q.2 _ (O6 J));have a2:=a7 _ J;generalize hle:ls[i]! = l at *;refine ML ?_;intros;rename_i b7;rw[b0,hle];refine Y.ef (Ef.k7 (a3 l.m.d _) rfl) ac ?_;rintro _ _⟨rfl,rfl⟩;by_cases h3:0<=l.m.d/\l.m.d<F
 case neg =>
  rw[bz h3,bz (A λq=>h3 q.d)];refine ML ?_;intros;exact KX.en ⟨rfl,rfl⟩
 rw[bO h3];refine ML ?_;intros;refine Y.ef (Ef.k7 (a3 l.m.ts _) rfl) ac ?_;rintro _ _⟨rfl,rfl⟩;by_cases h4:0<=l.m.ts/\l.m.ts<F
 case neg =>
  rw[bz h4,bz (A λq=>h4 q.ts)];refine ML ?_;intros;exact KX.en ⟨rfl,rfl⟩
 rw[bO h4];refine ML ?_;intros;refine Y.cr (qM l.m.fr) ?_;by_cases h5:kh l.m.fr
 case neg =>
  rw[bz h5,bz (A λq=>h5 q.fr)];refine ML ?_;intros;exact KX.en ⟨rfl,rfl⟩
 rw[bO h5];refine ML ?_;intros;refine Y.cr (qM l.m.to) ?_;by_cases h6:kh l.m.to
 case neg =>
  rw[bz h6,bz (A λq=>h6 q.to)];refine ML ?_;intros;exact KX.en ⟨rfl,rfl⟩
 rw[bO h6];by_cases h7:l.m.am.length=0
 .have a5 : (l.m.am.length:Int)=0:=D;rw[bz (A λq=>q.ne h7)];refine ML ?_;intros;exact KX.en ⟨rfl,rfl⟩
 have a5 : ¬(l.m.am.length:Int)=0:=D;refine ML ?_;intros;refine Y.cM (E.at (Φ:=η ms ls) (E.d8 (f:=ms) J)) ?_;refine Y.cr (xn N a6 l.ad l.m.am.length l.cap l.m.am rfl a2) ?_;by_cases h8:Ra N (-1) l.m.am
 case neg =>
  rw[bz h8,bz (A λq=>h8 q.Wo)];refine ML ?_;intros;exact KX.en ⟨rfl,rfl⟩
 rw[bO h8];refine ML ?_;intros;refine⟨i+1,⟨D,λx M=>?_⟩,D,?_,by exact aj⟩
 .rw[aB a4] at M;rcases J4 M with M|M
  .exact ha x M
  .rw[GO M,<-E7 a4,hle];exact⟨h3,h4,h5,h6,h7,h8⟩
 .rw[bJ i];exact aG
