/- Lemmas. -/
import Derived.Test.YtlgpgjdggilkgaaGreatDoorEtbb
set_option linter.all false
set_option maxHeartbeats 8000000
namespace Go.V
section
variable {P:Program}{env:Env}{L:Η}{ty:TypeId}{κ α:Type}[DecidableEq κ]
theorem Ef.Qs{t:TypeId}{x y z' : Operand}{b Ξ η:Nat}{z v B:Value}{kv:κ->Value}{Ε:α->Value}{m:List (κ×α)}{F9:Η}{k:κ}(e:α)[ht:P0 P t Ξ η z][hk:QZ P Ξ kv][hp:QD L b κ α kv Ε m F9](O:cq env x=some (.map (some b)))(Y:cq env y=some B)(hz:cq env z' = some v)[a3:Sy kv B k](hv:v=Ε e)
  : Ef P L env (.insert t x y z') ty (λ_ Γ=>Γ = cS kv Ε b (cZ m k e)::F9):=by
 rintro θ R a w ⟨a2,a4,M,pos,af,g⟩ next F5 ha s rfl rfl hn
 exact Ef.d9 (ty:=M) e O Y hz hv θ R a w ⟨a2,.mapUpdate t x y z',M,pos,af,g⟩ next F5 ha s rfl rfl hn
end
end Go.V
namespace Go.Proofs.YtlgpgjdggilkgaaGreatDoor
section
open Go.V
def kc(f:Nat):Value:=.func (.func f) #[] #[]
def Tw:List (Int×Nat):=[(1,137),(2,138),(3,139),(4,140),(5,141),(6,142)]
noncomputable def be(d E0:Int)(m:G3)(E:Int)(N:υ)(S:Ρ):L8 :=
 if m.Δ=1 then eN d m E N S
 else if m.Δ=2 then em d E0 m E N S
 else if m.Δ=3 then dt d m E N S
 else if m.Δ=4 then gc E0 m N S
 else if m.Δ=5 then dU d E0 m E N S
 else if m.Δ=6 then O4 m N S
 else([],N,S)
def F0(N:υ):Nat:=(N.Β.map λp=>cl p.2.Z).sum
def NN(ls:List lu):Nat:=(ls.map λl=>l.am.length).sum
def ro{α:Type}{f:α->Nat}:∀{l:List α} {x:α},x∈l->f x<=(l.map f).sum
 | y::l,x,h=>by
  rw[aq,aS];rcases Nj h with rfl|h
  .omega
  .have:=ro (f:=f) h;omega
def lA{N:υ}{p:Int×NF}(h:p∈N.Β):cl p.2.Z<=F0 N:=ro (f:=λp:Int×NF=>cl p.2.Z) h
def vM{ls:List lu}{l:lu}(h:l∈ls):l.am.length<=NN ls:=ro (f:=λl:lu=>l.am.length) h
def oS(d:Int):∀(k:Int) (ls:List lu),cl (B3 d k ls)<=NN ls
 | _,[]=>an _
 | k,l::ls=>by
  have ih:=oS d (k+1) ls;have e:NN (l::ls)=l.am.length+NN ls:=by unfold NN;rw[aq,aS]
  rw[e];unfold B3;split
  .have e2:∀(a:hy) (q:List hy),cl (a::q)=dW a+cl q:=λa q=>by unfold cl;rw[aq,aS]
   rw[e2,show dW ⟨l,k,0,[]⟩=l.am.length from Χ rfl];omega
  .omega
structure NG (π:B0) (d:Int) (N:υ) (S:Ρ):Prop where
 K1:Oc d π (dg S) S
 U:0<=N.U/\N.U<=dg S
 nd:(N.Β.map (·.1)).Nodup
 O9:∀p∈N.Φ,p.2.iM.length<=100
 pts:∀p∈N.Β,Vp p.2
def NG.ZA{π:B0}{d:Int}{n:G0}{S:Ρ}(h:NG π d n.m S):∀p∈n.Φ,p.2.iM.length<=100:=λp hp=>h.O9 (p.1,p.2.m) (List.mem_map.2 ⟨p,hp,rfl⟩)
theorem NG.XL{π:B0}{d:Int}{n:G0}{S:Ρ}(h:NG π d n.m S):∀p∈n.Β,p.2.Z.length<=1000:=λp hp=>by
 have:=(h.pts (p.1,p.2.m) (List.mem_map.2 ⟨p,hp,rfl⟩)).Z
 grind [J5.m]
attribute [local irreducible] Α GO GP δ ms GF GE Ev Ef C0 F CB GB V.Enters
theorem sj{L:Η}(nb lb:Nat)(d G:Int)(n:G0)(S:Ρ)(π:B0)(x:OD)(M:O7 x.m.ct)(hN:NG π d n.m S)(hk:dg S+F0 n.m+2*NN x.m.ct.Z<=2000)(E:Int) :
  Τ Θ 87 #[av nb,bF (bq x),J E] (gM x::eu nb lb d G n (aU lb S::L)) (lS nb lb d G (be d x.m.Λ x.m.ct E n.m S) L):=by
 refine Τ.bd ?_;refine Nd ?_;intros;refine GO.ef (Ef.c8 gm kc (.inl rfl)) ae ?_;rintro _ _⟨bm,rfl,rfl⟩;refine GO.NH (Ef.Qs (Ε:=kc) 137 rfl rfl rfl rfl) ?_;rintro _ _ rfl;refine GO.NH (Ef.Qs (Ε:=kc) 138 rfl rfl rfl rfl) ?_;rintro _ _ rfl;refine GO.NH (Ef.Qs (Ε:=kc) 139 rfl rfl rfl rfl) ?_;rintro _ _ rfl;refine GO.NH (Ef.Qs (Ε:=kc) 140 rfl rfl rfl rfl) ?_;rintro _ _ rfl;refine GO.NH (Ef.Qs (Ε:=kc) 141 rfl rfl rfl rfl) ?_;rintro _ _ rfl;refine GO.NH (Ef.Qs (Ε:=kc) 142 rfl rfl rfl rfl) ?_;rintro _ _ rfl;rw[show(cZ (cZ (cZ (cZ (cZ (cZ ([]:List (Int×Nat)) 1 137) 2 138) 3 139) 4 140) 5 141) 6 142)=Tw from rfl];refine Nd ?_;intros;refine GO.ca (BY x.ad (Pc x.m.ct).length x.cap x.m.ct M rfl) ?_;rintro _ _⟨c,rfl,hc,rfl⟩;have B:O7 c.m:=by rw[hc];exact M
 rw[<-hc] at hk;refine Nd ?_;intros;by_cases K:c.Δ=1
 .have hr:be d x.m.Λ x.m.ct E n.m S=eN d x.m.ct E n.m S:=by
   unfold be;rw[Χ (show x.m.ct.Δ=1 by rw[<-hc];exact K)]
  refine GO.ev (Ev.a8 rfl rfl) ae ?_;rw[show List.lookup c.Δ Tw=some 137 by rw[K];rfl];dsimp only[Option.map,Option.getD,Option.isSome,kc];refine Nd ?_;intros;refine GO.cL (Γ:=M9 c::eu nb lb d G n (aU lb S::L)) ak ?_;refine GO.ef (Ef.c7 (first:=[]) (cap:=[]) (vs:=[av nb,J x.m.Λ,bF (eV c),J E]) (vn nb lb d G n S π hN.K1 ⟨hN.U.1,by have h:=hN.U.2;have e:n.m.U=n.U:=rfl;omega⟩ x.m.Λ E c B (by have:=oS d 0 c.m.Z;omega)) rfl rfl) ae ?_;intro v Γ hv;refine Nd ?_;intros;rw[hr,<-hc];refine KX.a8 aF (F.refl _) ?_;exact hv
 by_cases T:c.Δ=2
 .have hr:be d x.m.Λ x.m.ct E n.m S=em d x.m.Λ x.m.ct E n.m S:=by
   unfold be;rw[Ν (show ¬x.m.ct.Δ=1 by rw[<-hc];exact K),Χ (show x.m.ct.Δ=2 by rw[<-hc];exact T)]
  refine GO.ev (Ev.a8 rfl rfl) ae ?_;rw[show List.lookup c.Δ Tw=some 138 by rw[T];rfl];dsimp only[Option.map,Option.getD,Option.isSome,kc];refine Nd ?_;intros;refine GO.cL (Γ:=M9 c::eu nb lb d G n (aU lb S::L)) ak ?_;refine GO.ef (Ef.c7 (first:=[]) (cap:=[]) (vs:=[av nb,J x.m.Λ,bF (eV c),J E]) (Τ.pre (L:=M9 c::eu nb lb d G n (aU lb S::L)) (BK nb lb d G n S x.m.Λ E c B.num.2.1 hN.ZA) F.drop) rfl rfl) ae ?_;intro v Γ hv;refine Nd ?_;intros;rw[hr,<-hc];refine KX.a8 aF (F.refl _) ?_;exact hv
 by_cases h3:c.Δ=3
 .have hr:be d x.m.Λ x.m.ct E n.m S=dt d x.m.ct E n.m S:=by
   unfold be;rw[Ν (show ¬x.m.ct.Δ=1 by rw[<-hc];exact K),Ν (show ¬x.m.ct.Δ=2 by rw[<-hc];exact T),Χ (show x.m.ct.Δ=3 by rw[<-hc];exact h3)]
  refine GO.ev (Ev.a8 rfl rfl) ae ?_;rw[show List.lookup c.Δ Tw=some 139 by rw[h3];rfl];dsimp only[Option.map,Option.getD,Option.isSome,kc];refine Nd ?_;intros;refine GO.cL (Γ:=M9 c::eu nb lb d G n (aU lb S::L)) ak ?_;refine GO.ef (Ef.c7 (first:=[]) (cap:=[]) (vs:=[av nb,J x.m.Λ,bF (eV c),J E]) (Τ.pre (L:=M9 c::eu nb lb d G n (aU lb S::L)) (xc nb lb d G n S π hN.K1 x.m.Λ E c B.num.2.1 hN.pts (λp hp=>by have:=lA hp;omega)) F.drop) rfl rfl) ae ?_;intro v Γ hv;refine Nd ?_;intros;rw[hr,<-hc];refine KX.a8 aF (F.refl _) ?_;exact hv
 by_cases h4:c.Δ=4
 .have hr:be d x.m.Λ x.m.ct E n.m S=gc x.m.Λ x.m.ct n.m S:=by
   unfold be;rw[Ν (show ¬x.m.ct.Δ=1 by rw[<-hc];exact K),Ν (show ¬x.m.ct.Δ=2 by rw[<-hc];exact T),Ν (show ¬x.m.ct.Δ=3 by rw[<-hc];exact h3),Χ (show x.m.ct.Δ=4 by rw[<-hc];exact h4)]
  refine GO.ev (Ev.a8 rfl rfl) ae ?_;rw[show List.lookup c.Δ Tw=some 140 by rw[h4];rfl];dsimp only[Option.map,Option.getD,Option.isSome,kc];refine Nd ?_;intros;refine GO.cL (Γ:=M9 c::eu nb lb d G n (aU lb S::L)) ak ?_;refine GO.ef (Ef.c7 (first:=[]) (cap:=[]) (vs:=[av nb,J x.m.Λ,bF (eV c),J E]) (Τ.pre (L:=M9 c::eu nb lb d G n (aU lb S::L)) (BL nb lb d G n S x.m.Λ E c) F.drop) rfl rfl) ae ?_;intro v Γ hv;refine Nd ?_;intros;rw[hr,<-hc];refine KX.a8 aF (F.refl _) ?_;exact hv
 by_cases h5:c.Δ=5
 .have hr:be d x.m.Λ x.m.ct E n.m S=dU d x.m.Λ x.m.ct E n.m S:=by
   unfold be;rw[Ν (show ¬x.m.ct.Δ=1 by rw[<-hc];exact K),Ν (show ¬x.m.ct.Δ=2 by rw[<-hc];exact T),Ν (show ¬x.m.ct.Δ=3 by rw[<-hc];exact h3),Ν (show ¬x.m.ct.Δ=4 by rw[<-hc];exact h4),Χ (show x.m.ct.Δ=5 by rw[<-hc];exact h5)]
  refine GO.ev (Ev.a8 rfl rfl) ae ?_;rw[show List.lookup c.Δ Tw=some 141 by rw[h5];rfl];dsimp only[Option.map,Option.getD,Option.isSome,kc];refine Nd ?_;intros;refine GO.cL (Γ:=M9 c::eu nb lb d G n (aU lb S::L)) ak ?_;refine GO.ef (Ef.c7 (first:=[]) (cap:=[]) (vs:=[av nb,J x.m.Λ,bF (eV c),J E]) (um nb lb d G n S π hN.K1 x.m.Λ E c B (λl U=>by have:=vM U;omega)) rfl rfl) ae ?_;intro v Γ hv;refine Nd ?_;intros;rw[hr,<-hc];refine KX.a8 aF (F.refl _) ?_;exact hv
 by_cases h6:c.Δ=6
 .have hr:be d x.m.Λ x.m.ct E n.m S=O4 x.m.ct n.m S:=by
   unfold be;rw[Ν (show ¬x.m.ct.Δ=1 by rw[<-hc];exact K),Ν (show ¬x.m.ct.Δ=2 by rw[<-hc];exact T),Ν (show ¬x.m.ct.Δ=3 by rw[<-hc];exact h3),Ν (show ¬x.m.ct.Δ=4 by rw[<-hc];exact h4),Ν (show ¬x.m.ct.Δ=5 by rw[<-hc];exact h5),Χ (show x.m.ct.Δ=6 by rw[<-hc];exact h6)]
  refine GO.ev (Ev.a8 rfl rfl) ae ?_;rw[show List.lookup c.Δ Tw=some 142 by rw[h6];rfl];dsimp only[Option.map,Option.getD,Option.isSome,kc];refine Nd ?_;intros;refine GO.cL (Γ:=M9 c::eu nb lb d G n (aU lb S::L)) ak ?_;refine GO.ef (Ef.c7 (first:=[]) (cap:=[]) (vs:=[av nb,J x.m.Λ,bF (eV c),J E]) (Τ.pre (L:=M9 c::eu nb lb d G n (aU lb S::L)) (ED nb lb d G n S x.m.Λ E c hN.XL) F.drop) rfl rfl) ae ?_;intro v Γ hv;refine Nd ?_;intros;rw[hr,<-hc];refine KX.a8 aF (F.refl _) ?_;exact hv
 have hr:be d x.m.Λ x.m.ct E n.m S=([],n.m,S):=by
  unfold be;rw[Ν (show ¬x.m.ct.Δ=1 by rw[<-hc];exact K),Ν (show ¬x.m.ct.Δ=2 by rw[<-hc];exact T),Ν (show ¬x.m.ct.Δ=3 by rw[<-hc];exact h3),Ν (show ¬x.m.ct.Δ=4 by rw[<-hc];exact h4),Ν (show ¬x.m.ct.Δ=5 by rw[<-hc];exact h5),Ν (show ¬x.m.ct.Δ=6 by rw[<-hc];exact h6)]
 refine GO.ev (Ev.a8 rfl rfl) ae ?_
 rw[show List.lookup c.Δ Tw=none by
  grind [Tw]]
 dsimp only[Option.map,Option.getD,Option.isSome];refine Nd ?_;intros;rw[hr];refine KX.a8 aF ?_ ⟨none,0,[],n,rfl,rfl,rfl,rfl⟩;refine(F.c8 bq 3 B1).trans ((F.a8 gM).trans ?_);simp only[eu,gL];exact ak
end
section
open Go.V
structure R5 (d kd:Int) (y:eU):Prop where
 ct:O7 y.ct
 Δ:kd<y.ct.Δ
 le:y.ct.Δ<=6
 Λ:y.Λ=d
 jC:y.to=d->y.ct.Z=[]
theorem jT{κ α:Type}[DecidableEq κ]{l:List (κ×α)}{k:κ}{a:α}{p:κ×α}(h:p∈cZ l k a):p=(k,a)\/p∈l:=by
 grind [cZ]
theorem yn{l l' : List (Int×NF)}(h:l.Perm l'):(l.map λp=>cl p.2.Z).sum=(l'.map λp=>cl p.2.Z).sum:=aj
theorem rz{N:υ}{A:Int}{p q:NF}(hn:(N.Β.map (·.1)).Nodup)(h:ζ N.Β A=some p):F0 { N with Β:=cZ N.Β A q }+cl p.Z=F0 N+cl q.Z:=by
 have K:=yn (qT (k:=A) (a:=q) hn);have T:=yn (mf hn h);grind [F0]
theorem oQ{N:υ}{A:Int}{q:NF}(hn:(N.Β.map (·.1)).Nodup)(h:ζ N.Β A=none):F0 { N with Β:=cZ N.Β A q }=F0 N+cl q.Z:=by
 grind [F0,pR]
theorem tx{S:Ρ}{Δ E:Int}{Q:List A8}(h:E6 S Δ E Q=true):(E2 S (H7 Δ E Q)).1=0/\1<=Q.length/\Q.length<=64:=by
 have he:(E2 S (H7 Δ E Q)).1=0:=by
  refine Classical.byContradiction λq=>?_;unfold E6 at h;rw[bB q] at h;cases h
 exact⟨he,(jg he).2.2.2.1⟩
theorem ny{S:Ρ}{Δ E:Int}{Q:List A8}(h:E6 S Δ E Q=true):dg (L4 S Δ E Q)=dg S+C5 Q:=by
 rw[jq,Χ (tx h).1];rfl
theorem rF:∀Q:List A8,Q.length<=C5 Q
 | []=>an _
 | m::Q=>by
  have:=rF Q
  show Q.length+1<=(m.Β.length+1)+C5 Q;omega
theorem uz{S:Ρ}{s:D6}:dg S<=dg (bM S s):=by
 rw[jq];split<;>omega
theorem Cf{d A bI Ι E:Int}{o:hy}{S:Ρ}:dg S<=dg (bV d A bI Ι E o S).2.2:=by
 by_cases h0:o.state=0
 .by_cases hB:bI=1/\o.Υ.ts≠d
  .grind [kD,uz]
  .obtain⟨to,ht⟩:∃to,to=if bI=2 then o.Υ.fr else o.Υ.to:=⟨_,rfl⟩;rw[jb h0 hB ht];grind [uz]
 .rw[jU h0];grind
theorem uY{d A bI Ι E:Int}:∀{os:List hy} {S:Ρ},dg S<=dg (cG d A bI Ι E os S).2.2
 | [],S=>an _
 | o::os,S=>by
  simp only[cG];exact aO Cf uY
theorem xz{d A bI Ι E:Int}{o:hy}{S:Ρ}{c:B0}(hS:Oc d c (dg S) S)(hk:dg S+dW o<=2000)(a2:vi A)(ho:Rk o):Rk (bV d A bI Ι E o S).2.1/\∀y∈(bV d A bI Ι E o S).1,R5 d 3 y:=by
 by_cases h0:o.state=0
 .have hh:dW o=o.Υ.am.length:=Χ h0;by_cases hB:bI=1/\o.Υ.ts≠d
  .rw[kD h0 hB];split
   .rename_i hg;have B:dg S+C5 (B2 Ι 0 o.Υ.am)<=2000:=by rw[gV];omega
    have K:=zM hS B hg;have T:=Hf hS (Δ:=6) (E:=E) B;have M:Rk { o with state:=1,Κ:=Ny S 6 E (B2 Ι 0 o.Υ.am) }:=⟨ho.1,ho.2.1,aj,T⟩;refine⟨M,λy Y=>?_⟩;obtain rfl:=F6 Y;exact⟨ni a2 M,(show(3:Int)<5 by decide),(show(5:Int)<=6 by decide),rfl,λq=>hD q hB.2⟩
   grind
  .obtain⟨to,ht⟩:∃to,to=if bI=2 then o.Υ.fr else o.Υ.to:=⟨_,rfl⟩;rw[jb h0 hB ht];split
   .exact⟨⟨ho.1,ho.2.1,ho.2.2.1,ho.2.2.2⟩,λy Y=>by cases Y⟩
   grind
 grind [jU]
theorem xC{d A bI Ι E:Int}{c:B0}(B:vi A):∀{os:List hy} {S:Ρ},Oc d c (dg S) S->dg S+cl os<=2000->(∀o∈os,Rk o)->(∀o∈(cG d A bI Ι E os S).2.1,Rk o)/\∀y∈(cG d A bI Ι E os S).1,R5 d 3 y
 | [],S,_,_,_=>⟨λo h=>hD h aG,λy h=>hD h aG⟩
 | o::os,S,h,hk,ho=>by
  have e2:∀(a:hy) (l:List hy),cl (a::l)=dW a+cl l:=by grind [cl]
  rw[e2] at hk;have K:=uX (A:=A) (bI:=bI) (Ι:=Ι) (E:=E) (o:=o) h D;have T:=xz (A:=A) (bI:=bI) (Ι:=Ι) (E:=E) h D B (ho o aA);have h3:=xC (bI:=bI) (Ι:=Ι) (E:=E) B (os:=os) K.1 D aj;grind [cG]
def DC{d to kd Δ A ω:Int}{yes:Bool}(K:vi Δ)(T:vi A)(h3:vi ω)(h4:kd<Δ)(h5:Δ<=6):R5 d kd ⟨d,to,C9 Δ A ω yes⟩:=⟨jw K T h3,h4,h5,rfl,λ_=>rfl⟩
def rT{d kd:Int}{gs W:List Int}{ct:G3}(h:O7 ct)(hk:kd<ct.Δ)(B:ct.Δ<=6)(U:ct.Z=[]):∀y∈ck d gs W ct,R5 d kd y:=λy Y=>by
 unfold ck at Y;obtain⟨g,_,rfl⟩:=H9 Y;exact⟨h,hk,B,rfl,λ_=>U⟩
def Cy{d:Int}:∀{k:Int} {ls:List lu},(∀l∈ls,lR l)->0<=k->k+ls.length<=1000000->(B3 d k ls).length<=ls.length/\∀o∈B3 d k ls,Rk o
 | _,[],_,_,_=>⟨an _,λo h=>hD h aG⟩
 | k,l::ls,h,h0,K=>by
  rw[aK] at K ⊢;have ih:=Cy (d:=d) (k:=k+1) (ls:=ls) (λx O=>h x (az _ O)) D D;unfold B3;split
  .rw[aK];refine⟨D,λo ho=>?_⟩;rcases Nj ho with rfl|ho
   .exact⟨h l aA,by unfold vi;dsimp only;omega,aC _,λf hf=>by cases hf⟩
   .exact ih.2 o ho
  .exact⟨D,ih.2⟩
def yO(d:Int):∀(k:Int) (ls:List lu),∀o∈B3 d k ls,o.state=0
 | _,[],o,h=>hD h aG
 | k,l::ls,o,h=>by
  have ih:=yO d (k+1) ls o;have e1:B3 d k (l::ls)=if l.d=d then⟨l,k,0,[]⟩::B3 d (k+1) ls else B3 d (k+1) ls:=rfl;rw[e1] at h;split at h
  .rcases Nj h with rfl|h
   .rfl
   .exact ih h
  .exact ih h
def Q8(π:B0)(d kd:Int)(b:Nat)(r:L8):Prop:=NG π d r.2.1 r.2.2/\dg r.2.2+F0 r.2.1<=b/\∀y∈r.1,R5 d kd y
theorem Q8.none{π:B0}{d kd:Int}{b:Nat}{N:υ}{S:Ρ}(h:NG π d N S)(hb:dg S+F0 N<=b):Q8 π d kd b ([],N,S):=⟨h,hb,λy Y=>hD Y aG⟩
theorem NG.J1{π:B0}{d:Int}{N:υ}{S:Ρ}(h:NG π d N S){A:Int}{x:K6}(O:x.iM.length<=100):NG π d { N with Φ:=cZ N.Φ A x } S :=
 ⟨h.K1,h.U,h.nd,λp hp=>by
  rcases jT hp with rfl|hp
  .exact O
  .exact h.O9 p hp,h.pts⟩
theorem NG.K7{π:B0}{d:Int}{N:υ}{S S' : Ρ}(h:NG π d N S)(hS:Oc d π (dg S') S')(hk:dg S<=dg S'){A:Int}{p:NF}(hp:Vp p):NG π d { N with Β:=cZ N.Β A p } S' :=
 ⟨hS,⟨h.U.1,by have:=h.U.2;grind⟩,iD h.nd,h.O9,λq hq=>by
  rcases jT hq with rfl|hq
  .exact hp
  .exact h.pts q hq⟩
theorem HY{π:B0}{d E0 E:Int}{m:G3}{N:υ}{S:Ρ}(hN:NG π d N S)(hm:O7 m){b:Nat}(hb:dg S+F0 N<=b):Q8 π d 2 b (em d E0 m E N S):=by
 unfold em;cases U:ζ N.Φ m.A with
 | none=>exact Q8.none hN hb
 | some x =>
  have O:=hN.O9 _ (bQ U);dsimp only;have h3:vi 3:=by unfold vi;omega
  have h0:vi 0:=by unfold vi;omega
  split
  .exact Q8.none hN hb
  .split
   .exact⟨hN.J1 O,hb,rT (jw h3 hm.num.2.1 h0) (show(2:Int)<3 by decide) (show(3:Int)<=6 by decide) rfl⟩
   .split
    .exact⟨hN.J1 O,hb,λy Y=>aj⟩
    .exact⟨hN.J1 O,hb,rT (jw h3 hm.num.2.1 h0) (show(2:Int)<3 by decide) (show(3:Int)<=6 by decide) rfl⟩
theorem Ie{π:B0}{d E0:Int}{m:G3}{N:υ}{S:Ρ}(hN:NG π d N S){b:Nat}(hb:dg S+F0 N<=b):Q8 π d 4 b (gc E0 m N S):=by
 unfold gc υ.J1;cases U:ζ N.Φ m.A with
 | none=>exact Q8.none hN hb
 | some x=>exact⟨hN.J1 (hN.O9 _ (bQ U)),hb,λy Y=>aj⟩
theorem zF(ω:Int):∀os:List hy,cl (os.map (eY ω))=cl os
 | []=>rfl
 | o::os=>by
  have e2:∀(a:hy) (l:List hy),cl (a::l)=dW a+cl l:=λa l=>by unfold cl;rw[aq,aS]
  rw[aq,e2,e2,zF ω os];congr 1;unfold eY;split
  .rename_i h;unfold dW;rw[Ν (show ¬(2:Int)=0 by decide),Ν (by rw[h.2];decide)]
  .rfl
theorem Li{π:B0}{d:Int}{m:G3}{N:υ}{S:Ρ}(hN:NG π d N S){b:Nat}(hb:dg S+F0 N<=b):Q8 π d 6 b (O4 m N S):=by
 unfold O4 υ.K7;cases U:ζ N.Β m.A with
 | none=>exact Q8.none hN hb
 | some p =>
  have hp:=hN.pts _ (bQ U);refine⟨hN.K7 hN.K1 D ⟨?_,λo ho=>?_⟩,?_,λy Y=>aj⟩
  .rw[al];exact hp.Z
  .obtain⟨q,hq,rfl⟩:=H9 ho;have B:=hp.ow q hq;unfold eY;split
   .exact⟨B.1,B.2.1,B.2.2.1,B.2.2.2⟩
   omega
  .have K:=rz (q:={ p with Z:=p.Z.map (eY m.ω) }) hN.nd U;grind [zF]
theorem Fg{π:B0}{d E:Int}{m:G3}{N:υ}{S:Ρ}(hN:NG π d N S)(hm:O7 m){b:Nat}(hb:dg S+F0 N<=b)(a2:b<=2000):Q8 π d 3 b (dt d m E N S):=by
 have h4:vi 4:=by unfold vi;omega
 have h0:vi 0:=by unfold vi;omega
 have B:R5 d 3 ⟨d,bZ m.A,C9 4 m.A 0 false⟩:=DC h4 hm.num.2.1 h0 ae ae;unfold dt;cases U:ζ N.Β m.A with
 | none =>
  refine⟨hN.K7 hN.K1 D ⟨aC _,aj⟩,?_,λy Y=>?_⟩
  .have K:=oQ (q:=⟨3,0,[]⟩) hN.nd U;grind [cl]
  grind
 | some p =>
  have hp:=hN.pts _ (bQ U);have M:=lA (bQ U);dsimp only at M ⊢;split
  .have K:=rm (d:=d) (A:=m.A) (bI:=if m.yes=true then 1 else 2) (Ι:=p.Ι) (E:=E) (os:=p.Z) hN.K1 D;have T:=xC (d:=d) (bI:=if m.yes=true then 1 else 2) (Ι:=p.Ι) (E:=E) hm.num.2.1 (os:=p.Z) hN.K1 D hp.ow;have h3:=nE d m.A (if m.yes=true then 1 else 2) p.Ι E p.Z S;refine⟨hN.K7 K.1 uY ⟨?_,T.1⟩,?_,λy Y=>?_⟩
   .show(cG d m.A (if m.yes=true then 1 else 2) p.Ι E p.Z S).2.1.length<=32;rw[h3];exact hp.Z
   .have h5:=rz (q:=⟨if m.yes=true then 1 else 2,p.Ι,(cG d m.A (if m.yes=true then 1 else 2) p.Ι E p.Z S).2.1⟩) hN.nd U;grind
   grind
  .refine⟨hN,hb,λy Y=>?_⟩;obtain rfl:=F6 Y;exact B
theorem Iu{π:B0}{d E:Int}{m:G3}{N:υ}{S:Ρ}(hN:NG π d N S)(hm:O7 m){b:Nat}(hb:dg S+F0 N+2*NN m.Z<=b)(a4:b<=2000):Q8 π d 1 b (eN d m E N S):=by
 have T:vi 2:=by unfold vi;omega
 have h0:vi 0:=by unfold vi;omega
 have hv:∀y:Bool,R5 d 1 ⟨d,bZ m.A,C9 2 m.A 0 y⟩:=λy=>DC T hm.num.2.1 h0 ae ae;have b0:=oS d 0 m.Z;unfold eN;cases U:ζ N.Β m.A with
 | some p =>
  refine⟨hN,by dsimp only;omega,λy Y=>?_⟩;obtain rfl:=F6 Y;exact hv _
 | none =>
  dsimp only;have a3:=hm.Z;have B:=Cy (d:=d) (k:=0) hm.lg D D;have a2:∀o∈B3 d 0 m.Z,o.state=0:=yO d 0 m.Z;have a9:=kL (268435456+N.U) (B3 d 0 m.Z) a2;split
  .rename_i hg;have a7:=ny hg;have a5:=(tx hg).2.1;have a6:=rF (dy (268435456+N.U) (B3 d 0 m.Z));have hS:Oc d π (dg (L4 S 2 E (dy (268435456+N.U) (B3 d 0 m.Z)))) (L4 S 2 E (dy (268435456+N.U) (B3 d 0 m.Z))):=Vq.post hN.K1 _ (by show dg S+C5 (dy (268435456+N.U) (B3 d 0 m.Z))<=2000;omega);have hP:=hN.K7 (A:=m.A) (p:=⟨0,268435456+N.U,B3 d 0 m.Z⟩) hS D ⟨aj,B.2⟩;have M:=oQ (q:=⟨0,268435456+N.U,B3 d 0 m.Z⟩) hN.nd U;refine⟨⟨hP.K1,?_,hP.nd,hP.O9,hP.pts⟩,?_,λy Y=>?_⟩
   .have:=hN.U
    grind
   .grind [F0]
   grind
  .have M:=oQ (q:=⟨3,268435456+N.U,[]⟩) hN.nd U;refine⟨hN.K7 hN.K1 D ⟨aC _,aj⟩,?_,λy Y=>?_⟩
   .grind [cl]
   grind
theorem FG{π:B0}{d E0 E:Int}{m:G3}{N:υ}{S:Ρ}(hN:NG π d N S)(hm:O7 m){b:Nat}(hb:dg S+F0 N+2*NN m.Z<=b)(M:b<=2000):Q8 π d 5 b (dU d E0 m E N S):=by
 have h6:vi 6:=by unfold vi;omega
 have hv:R5 d 5 ⟨d,E0,C9 6 m.A m.ω false⟩:=DC h6 hm.num.2.1 hm.num.2.2 ae ae;unfold dU;split
 .refine⟨hN,by dsimp only;omega,λy Y=>?_⟩;obtain rfl:=F6 Y;exact hv
 .split
  .rename_i T;have B:m.Z[0]!∈m.Z:=by rw[D7 D];exact aj
   have ha:=vM B;have a3:=kC (to:=m.Z[0]!.to) T.2;split
   .rename_i hg;have a2:=ny hg;have hS:Oc d π (dg (L4 S 5 E (G7 m.Z[0]!.to m.Z[0]!.am m.Κ))) (L4 S 5 E (G7 m.Z[0]!.to m.Z[0]!.am m.Κ)):=Vq.post hN.K1 _ (by show dg S+C5 (G7 m.Z[0]!.to m.Z[0]!.am m.Κ)<=2000;omega);refine⟨⟨hS,⟨hN.U.1,by have:=hN.U.2;grind⟩,hN.nd,hN.O9,hN.pts⟩,?_,λy Y=>?_⟩
    .grind [F0]
    grind
   .exact Q8.none hN D
  .exact Q8.none hN D
theorem th{π:B0}{d E0 E:Int}{m:G3}{N:υ}{S:Ρ}(hN:NG π d N S)(hm:O7 m){b:Nat}(hb:dg S+F0 N+2*NN m.Z<=b)(B:b<=2000):Q8 π d m.Δ b (be d E0 m E N S):=by
 grind [be,Iu,HY,Fg,Ie,FG,Li,Q8.none]
def bS{α:Type}(f:α->υ->Ρ->L8):List α->υ->Ρ->L8
 | [],N,S=>([],N,S)
 | m::l,N,S=>((f m N S).1++(bS f l (f m N S).2.1 (f m N S).2.2).1,(bS f l (f m N S).2.1 (f m N S).2.2).2.1,(bS f l (f m N S).2.1 (f m N S).2.2).2.2)
theorem uL{α:Type}(f:α->υ->Ρ->L8)(m:α):∀(l:List α) (N:υ) (S:Ρ),bS f (l++[m]) N S=((bS f l N S).1++(f m (bS f l N S).2.1 (bS f l N S).2.2).1,(f m (bS f l N S).2.1 (bS f l N S).2.2).2.1,(f m (bS f l N S).2.1 (bS f l N S).2.2).2.2)
 | [],N,S=>by grind [bS]
 | x::l,N,S=>by
  rw[au];simp only[bS];rw[uL f m l];simp only[aH]
theorem pU{α:Type}[Inhabited α](f:α->υ->Ρ->L8)(l:List α)(N:υ)(S:Ρ){i:Nat}(h:i<l.length):bS f (l.take (i+1)) N S=((bS f (l.take i) N S).1++(f l[i]! (bS f (l.take i) N S).2.1 (bS f (l.take i) N S).2.2).1,(f l[i]! (bS f (l.take i) N S).2.1 (bS f (l.take i) N S).2.2).2.1,(f l[i]! (bS f (l.take i) N S).2.1 (bS f (l.take i) N S).2.2).2.2):=by
 grind [aB,uL]
noncomputable def bJ(d E:Int):Nat->eU->υ->Ρ->L8
 | 0,_,N,S=>([],N,S)
 | Μ+1,m,N,S=>if m.to≠d then([m],N,S) else bS (bJ d E Μ) (be d m.Λ m.ct E N S).1 (be d m.Λ m.ct E N S).2.1 (be d m.Λ m.ct E N S).2.2
def Qg(k:Int):Nat:=if k<=2 then 3300 else if k=3 then 33 else 1
theorem vK(k:Int):1<=Qg k:=by
 grind [Qg]
theorem tG{k j:Int}(h:k<j):Qg j<=Qg (k+1):=by
 grind [Qg]
theorem qR{π:B0}{d E0 E:Int}{m:G3}{N:υ}{S:Ρ}(hN:NG π d N S):(be d E0 m E N S).1.length*Qg (m.Δ+1)<=Qg m.Δ:=by
 have tl:∀(gs:List Int) (ct:G3),gs.length<=100->(ck d gs [] ct).length<=100:=by grind [kU]
 unfold be;split
 .rename_i h;rw[h]
  have:(eN d m E N S).1.length=1:=by
   unfold eN;split
   .rfl
   .split<;>rfl
  rw[this];decide
 split
 .rename_i h;rw[h]
  have:(em d E0 m E N S).1.length<=100:=by
   unfold em;cases U:ζ N.Φ m.A with
   | none=>grind
   | some x =>
    have O:=hN.O9 _ (bQ U);grind
  grind [Qg]
 split
 .rename_i h;rw[h]
  have:(dt d m E N S).1.length<=33:=by
   unfold dt;cases U:ζ N.Β m.A with
   | none=>grind
   | some p =>
    have hp:=(hN.pts _ (bQ U)).Z;grind [ph]
  grind [Qg]
 split
 .show 0*_<=_;omega
 split
 .grind [dU,Qg]
 split
 .show 0*_<=_;omega
 grind
structure Rl (d:Int) (Μ:Nat) (m:eU):Prop where
 ct:O7 m.ct
 pos:1<=Μ
 jC:m.to=d->7<=m.ct.Δ+Μ
def cost(d:Int)(m:eU):Nat:=if m.to=d then 2*NN m.ct.Z else 0
structure Out (d:Int) (m:eU):Prop where
 ct:O7 m.ct
 to:m.to≠d
def R5.WN{d kd:Int}{Μ:Nat}{y:eU}(h:R5 d kd y)(hd:7<=kd+(Μ+1:Nat)):Rl d Μ y/\cost d y=0:=by
 have K:=h.Δ;have T:=h.le;refine⟨⟨h.ct,D,D⟩,?_⟩;unfold cost;split
 .rename_i q;rw[h.jC q];rfl
 .rfl
theorem rJ{π:B0}{d:Int}{f:eU->υ->Ρ->L8}{b C:Nat}(P:eU->Prop)(hf:∀m N S,P m->NG π d N S->dg S+F0 N<=b->NG π d (f m N S).2.1 (f m N S).2.2/\dg (f m N S).2.2+F0 (f m N S).2.1<=b/\(∀y∈(f m N S).1,Out d y)/\(f m N S).1.length<=C) :
  ∀(l:List eU) (N:υ) (S:Ρ),(∀m∈l,P m)->NG π d N S->dg S+F0 N<=b->NG π d (bS f l N S).2.1 (bS f l N S).2.2/\dg (bS f l N S).2.2+F0 (bS f l N S).2.1<=b/\(∀y∈(bS f l N S).1,Out d y)/\(bS f l N S).1.length<=l.length*C
 | [],N,S,_,hN,hb=>⟨hN,hb,λy Y=>hD Y aG,by show 0<=_;omega⟩
 | m::l,N,S,hP,hN,hb=>by
  obtain⟨K,T,h3,h4⟩:=hf m N S aj hN hb;obtain⟨i1,i2,i3,i4⟩:=rJ P hf l _ _ aj K T;simp only[bS];refine⟨i1,i2,λy Y=>?_,?_⟩
  .grind
  .rw[ay,aK,dY];omega
theorem pG{π:B0}{d E:Int}{b:Nat}(B:b<=2000):∀(Μ:Nat) (m:eU) (N:υ) (S:Ρ),Rl d Μ m->NG π d N S->dg S+F0 N+cost d m<=b->NG π d (bJ d E Μ m N S).2.1 (bJ d E Μ m N S).2.2/\dg (bJ d E Μ m N S).2.2+F0 (bJ d E Μ m N S).2.1<=b/\(∀y∈(bJ d E Μ m N S).1,Out d y)/\(bJ d E Μ m N S).1.length<=Qg m.ct.Δ
 | 0,m,N,S,hm,_,_=>hD hm.pos ae
 | Μ+1,m,N,S,hm,hN,hb=>by
  unfold bJ;by_cases ht:m.to=d
  .rw[Ν D];have hc:cost d m=2*NN m.ct.Z:=Χ ht;rw[hc] at hb;obtain⟨K,T,h3⟩:=th (E0:=m.Λ) (E:=E) hN hm.ct hb B;have U:=qR (E0:=m.Λ) (E:=E) (m:=m.ct) hN;have ho:=hm.jC ht
   obtain⟨i1,i2,i3,i4⟩:=rJ (C:=Qg (m.ct.Δ+1)) (λy=>R5 d m.ct.Δ y) (λy N' S' Y M a2=>by
    obtain⟨p1,p2⟩:=Y.WN (Μ:=Μ) D;obtain⟨q1,q2,q3,q4⟩:=pG (E:=E) B Μ y N' S' p1 M D;exact⟨q1,q2,q3,aO q4 (tG Y.Δ)⟩) _ _ _ h3 K T
   grind
  .rw[Χ ht];refine⟨hN,aj,λy Y=>?_,vK _⟩;obtain rfl:=F6 Y;exact⟨hm.ct,ht⟩
def tB(f:eU->υ->Ρ->L8):∀(l:List eU) (N:υ) (S:Ρ) (i:Nat),(bS f (l.take i) N S).1.length<=(bS f l N S).1.length
 | [],N,S,i=>by rw[List.take_nil];exact an _
 | m::l,N,S,0=>aC _
 | m::l,N,S,i+1=>by
  have:=tB f l (f m N S).2.1 (f m N S).2.2 i
  rw[List.take_succ_cons];simp only[bS,ay];omega
def re(k:Int):Qg k<=3300:=by
 unfold Qg;split
 .exact an _
 .split<;>decide
def Rz(bn br bt bp nb:Nat)(E:Int)(Oo:OA)(rl Oq:Nat)(L:Η):Η:=obj bn 62 [av nb]::obj br 40 [ah Oo rl Oq]::obj bt B7 [J E]::obj bp 248 [.func (.func 136) #[] #[av bn,av br,av bt,av bp]]::L
attribute [local irreducible] Α GO GP δ ms GF GE Ev Ef C0 F CB GB V.Enters
abbrev Bi:=Za [.ev 6]
def VY{φ ψ:Prop}(k:ψ)(h:Hid ψ->φ:=by intro k;(repeat (first|refine ab ?_|intro B6|refine Α.dr 32 1 Bi ?_));(repeat revert B6);exact Hid.out k):φ:=h ⟨k⟩
def wg(nb lb:Nat)(d G:Int)(π:B0)(b:Nat)(b9:b<=2000)(E:Int)(bn br bt bp:Nat):∀(Μ:Nat) (L:Η) (n:G0) (S:Ρ) (x:OD) (Oo:OA) (Oq:Nat) (rs:List OD),Rl d Μ x.m->NG π d n.m S->dg S+F0 n.m+cost d x.m<=b->rs.length+(bJ d E Μ x.m n.m S).1.length<=1000000 ->
  Τ Θ 136 #[bF (bq x),av bn,av br,av bt,av bp] (Rz bn br bt bp nb E Oo rs.length Oq (Ω bq 3 B1 Oo Oq rs::Ψ gM rs::gM x::eu nb lb d G n (aU lb S::L)))
   (λ_ Γ=>∃b2 a5 b6 n',b6.map (·.m)=rs.map (·.m)++(bJ d E Μ x.m n.m S).1/\n'.m=(bJ d E Μ x.m n.m S).2.1/\Γ = Rz bn br bt bp nb E b2 b6.length a5 (Ω bq 3 B1 b2 a5 b6::Ψ gM b6::eu nb lb d G n' (aU lb (bJ d E Μ x.m n.m S).2.2::L)))
 | 0,L,n,S,x,Oo,Oq,rs,hm,_,_,_=>hD hm.pos ae
 | Μ+1,L,n,S,x,Oo,Oq,rs,hm,hN,hb,hlen=>by
  refine Τ.bd ?_;simp only[Rz,eu,gL];by_cases ht:x.m.to=d
  case neg =>
   have hr:bJ d E (Μ+1) x.m n.m S=([x.m],n.m,S):=Χ ht;rw[hr] at hlen ⊢;have c4:rs.length+1<=1000000:=hlen;refine VY ?_;intros;refine GO.ef (Ef.a8 (Ε:=bq) (e:=x) rfl rfl rfl rfl rfl bh (eA _) D D) ae ?_;rintro _ _⟨c6,b8,rfl,rfl⟩;refine VY ?_;intros;refine KX.a8 aF ?_ ⟨c6,b8,rs++[x],n,by rw[aQ];rfl,rfl,rfl⟩;simp only[Rz,eu,gL];refine(F.at (Ο:=gM x) (F.d7 (f:=gM) fq)).trans ?_;refine(F.at (Ο:=Ψ gM [x]) (F.refl _)).trans ?_;refine(F.at (Ο:=Ψ gM rs) (F.refl _)).trans ?_;refine(F.c9 (f:=gM) fq).trans ?_;exact ak
  have hr:bJ d E (Μ+1) x.m n.m S=bS (bJ d E Μ) (be d x.m.Λ x.m.ct E n.m S).1 (be d x.m.Λ x.m.ct E n.m S).2.1 (be d x.m.Λ x.m.ct E n.m S).2.2:=Ν (λq=>q ht);rw[hr] at hlen ⊢;have hc:cost d x.m=2*NN x.m.ct.Z:=Χ ht;rw[hc] at hb;obtain⟨g1,g2,g3⟩:=th (E0:=x.m.Λ) (E:=E) hN hm.ct hb b9;have e4:=hm.jC ht;have e3:(be d x.m.Λ x.m.ct E n.m S).1.length<=3300:=aO (Nat.le_mul_of_pos_right _ (vK (x.m.ct.Δ+1))) (aO (qR (E0:=x.m.Λ) (E:=E) (m:=x.m.ct) hN) (re _))
  have a7:=rJ (π:=π) (d:=d) (f:=bJ d E Μ) (b:=b) (C:=Qg (x.m.ct.Δ+1)) (λy=>R5 d x.m.ct.Δ y) (λy N' S' Y d2 d3=>by
   obtain⟨p1,p2⟩:=Y.WN (Μ:=Μ) D;obtain⟨q1,q2,q3,q4⟩:=pG (E:=E) b9 Μ y N' S' p1 d2 (by rw[p2];exact d3);exact⟨q1,q2,q3,aO q4 (tG Y.Δ)⟩)
  refine VY ?_;intros;rename_i b5;refine GO.cL (Γ:=gM x::eu nb lb d G n (aU lb S::(obj bn 62 [av nb]::obj br 40 [ah Oo rs.length Oq]::obj bt B7 [J E]::obj bp 248 [.func (.func 136) #[] #[av bn,av br,av bt,av bp]]::Ω bq 3 B1 Oo Oq rs::Ψ gM rs::L))) (by simp only[eu,gL];exact ak) ?_;refine GO.ca (sj nb lb d G n S π x hm.ct hN D E) ?_;generalize be d x.m.Λ x.m.ct E n.m S=H at *;rintro _ _⟨b4,a2,Q,n1,rfl,c2,d5,rfl⟩;refine VY ?_;intros;refine Α.loop (α:=Nat×G0×OA×Nat×List OD) (λg=>g.1<=Q.length/\g.2.1.m=(bS (bJ d E Μ) (H.1.take g.1) H.2.1 H.2.2).2.1/\g.2.2.2.2.map (·.m)=rs.map (·.m)++(bS (bJ d E Μ) (H.1.take g.1) H.2.1 H.2.2).1) (λg=>[(4,av bp),(22,ah b4 Q.length a2),(23,J (Q.length:Int)),(24,J (g.1:Int))]) (λg=>obj bn 62 [av nb]::obj br 40 [ah g.2.2.1 g.2.2.2.2.length g.2.2.2.1]::obj bt B7 [J E]::obj bp 248 [.func (.func 136) #[] #[av bn,av br,av bt,av bp]]::Ω bq 3 B1 g.2.2.1 g.2.2.2.1 g.2.2.2.2::Ψ gM g.2.2.2.2::Ω bq 3 B1 b4 a2 Q::Ψ gM Q::eu nb lb d G g.2.1 (aU lb (bS (bJ d E Μ) (H.1.take g.1) H.2.1 H.2.2).2.2::L)) (λg=>Q.length - g.1) (0,n1,Oo,Oq,rs) ⟨aC _,by rw[bj];exact d5,by rw[bj];exact(aI _).symm⟩ aD ?_ ?_
  .dsimp only;rw[bj];simp only[eu,gL,bS];exact ak
  rintro⟨i,n2,a3,B,a6⟩ ⟨hi,a4,M⟩;dsimp only at hi a4 M ⊢;have e2:H.1.length=Q.length:=by rw[<-c2,al]
  by_cases c1:i<Q.length
  case neg =>
   have d6:H.1.take i=H.1:=aM D;rw[d6] at a4 M ⊢;refine VY ?_;intros;refine KX.c8 aF ?_ ⟨a3,B,a6,n2,M,a4,rfl⟩;simp only[eu,gL];exact ak
  have d4:(i:Int).toNat=i:=D;have a9:Q[i]!∈Q:=by rw[D7 c1];exact cX c1
  have d0:H.1[i]! = Q[i]!.m:=by rw[<-c2];exact eJ (f:=λx:OD=>x.m) c1
  have d1:Q[i]!.m∈H.1:=by rw[<-c2];exact PB a9
  obtain⟨p1,p2⟩:=(g3 _ d1).WN (Μ:=Μ) D;obtain⟨f1,f2,f3,f4⟩:=a7 (H.1.take i) H.2.1 H.2.2 (λy Y=>g3 y (cp Y)) g1 g2;have b1:=pU (bJ d E Μ) H.1 H.2.1 H.2.2 (i:=i) D;rw[d0] at b1;have c0:=tB (bJ d E Μ) H.1 H.2.1 H.2.2 (i+1)
  have c4:a6.length+(bJ d E Μ Q[i]!.m n2.m (bS (bJ d E Μ) (H.1.take i) H.2.1 H.2.2).2.2).1.length<=1000000:=by
   have e1:=congrArg List.length M;rw[al,ay,al] at e1;rw[b1] at c0;dsimp only at c0;rw[ay] at c0;rw[a4];omega
  refine Α.cL (F.at (Ο:=Ψ gM Q) (F.d8 (f:=gM) a9)) ?_;refine VY ?_;intros;rename_i b7;rw[d4];refine GO.cL (Γ:=Rz bn br bt bp nb E a3 a6.length B (Ω bq 3 B1 a3 B a6::Ψ gM a6::gM Q[i]!::eu nb lb d G n2 (aU lb (bS (bJ d E Μ) (H.1.take i) H.2.1 H.2.2).2.2::(Ω bq 3 B1 b4 a2 Q::Ψ gM Q::L)))) (by simp only[Rz,eu,gL];exact ak) ?_;refine GO.ef (Ef.c7 (first:=[]) (cap:=[av bn,av br,av bt,av bp]) (vs:=[bF (bq Q[i]!)]) (wg nb lb d G π b b9 E bn br bt bp Μ (Ω bq 3 B1 b4 a2 Q::Ψ gM Q::L) n2 (bS (bJ d E Μ) (H.1.take i) H.2.1 H.2.2).2.2 Q[i]! a3 B a6 p1 (by rw[a4];exact f1) (by rw[p2,a4];exact f2) c4) rfl rfl) ae ?_;rintro _ _⟨c3,b3,e0,n3,b0,c5,rfl⟩;rw[a4] at b0 c5;simp only[Rz];refine VY ?_;intros;refine⟨(i+1,n3,c3,b3,e0),⟨by dsimp only;omega,by dsimp only;rw[c5,b1],by dsimp only;rw[b0,M,b1,aH]⟩,by dsimp only;omega,?_,?_⟩
  .dsimp only;rw[bC i];exact aD
  .dsimp only;rw[b1,a4];simp only[eu,gL];exact ak
