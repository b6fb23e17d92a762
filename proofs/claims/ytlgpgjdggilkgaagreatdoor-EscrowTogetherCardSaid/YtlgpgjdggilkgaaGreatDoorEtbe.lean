/- Lemmas. -/
import Derived.Test.YtlgpgjdggilkgaaGreatDoorEtbd
set_option linter.all false
set_option maxHeartbeats 8000000
namespace Go.Proofs.YtlgpgjdggilkgaaGreatDoor
section
open Go.V
def kl(a:Int):Prop:=1<=a/\a<=1073741824
noncomputable instance (a:Int):Decidable (kl a):=Classical.propDecidable _
attribute [local irreducible] Α GO GP δ ms GF GE Ev Ef C0 F CB GB V.Enters bJ
def Aj{L:Η}(ad:OA)(n c:Nat)(I:List (Int×Int))[F2 L ad (Int×Int) dZ 2 I](hn:n=I.length)(hb:n<=1000000) :
  Τ Θ 168 #[ah ad n c] L (λv Γ=>∃M B,v=ah M I.length B/\Γ = Ω dZ 2 67 M B I::L):=by
 refine Τ.bd ?_;repeat' first|refine ab ?_|intro _|with_reducible refine CB.dec (λ_=>?_) (λ_=>?_)|with_reducible refine GB.dec (λ_=>?_) (λ_=>?_)|with_reducible refine CB.bool (λ_=>?_) (λ_=>?_)|with_reducible refine GB.bool (λ_=>?_) (λ_=>?_)
 .have h:ad=none:=by assumption
  subst h;refine KX.f8 (.inl rfl) (oO (L:=L) (I:=I)) ?_;intro O;subst O;refine KX.a8 aF (F.c8 dZ 2 67) ⟨_,_,rfl,rfl⟩
 .refine GO.cL (F.d9 (Ε:=dZ) (sz:=2) (I:=[]) rfl rfl cj cj) ?_;refine GO.ef (Ef.c9 rfl rfl rfl rfl hn (λe _=>mg e) hZ hZ) ae ?_;rintro _ _⟨M,B,rfl,rfl⟩;refine Nd ?_;intros;refine KX.a8 aF (F.refl _) ⟨M,B,rfl,rfl⟩
def qN{L:Η}(a:Int):Τ Θ 167 #[J a] L (F3 (.bool (dB (kl a))) L):=by
 refine Τ.bd ?_;by_cases h0:1<=a
 .by_cases K:a<=1073741824
  .rw[bN (show kl a from⟨h0,K⟩)];refine Nd ?_;intros;refine KX.a8 aF (F.refl _) ⟨?_,rfl⟩;exact congrArg Value.bool (bN K)
  .rw[bB (show ¬kl a from λq=>K q.2)];refine Nd ?_;intros;refine KX.a8 aF (F.refl _) ⟨?_,rfl⟩;exact congrArg Value.bool (bB K)
 .rw[bB (show ¬kl a from λq=>h0 q.1)];refine Nd ?_;intros;exact KX.en ⟨rfl,rfl⟩
def Ag{L:Η}(l:Nl)(U:l.m.am.length<=1000):Τ Θ 111 #[bF (aZ l)] (iJ l::L) (λv Γ=>∃l' : Nl,v=bF (aZ l')/\l'.m=l.m/\Γ = iJ l'::iJ l::L):=by
 refine Τ.bd ?_;refine Nd ?_;intros;refine GO.ca (Aj l.ad l.m.am.length l.cap l.m.am rfl D) ?_;rintro _ _⟨M,B,rfl,rfl⟩;refine Nd ?_;intros;refine KX.a8 (by exact C7.cell rfl bh (C7.nil)) ?_ ⟨⟨l.m,M,B⟩,rfl,rfl,rfl⟩;refine(F.at (Ο:=Ω dZ 2 Qc M B l.m.am) F.N9).trans ?_;exact ak
def XN:Nl:=⟨⟨0,0,0,0,[]⟩,none,0⟩
def zY{L:Η}(ad:OA)(c:Nat)(ls:List Nl)[hrd:F2 (Ψ iJ ls::L) ad Nl aZ 5 ls](U:ls.length<=1000)(hp:∀l∈ls,l.m.am.length<=1000) :
  Τ Θ 110 #[ah ad ls.length c,.func (.func 111) #[] #[]] (Ψ iJ ls::L) (λv Γ=>∃a3 c' M,v=ah a3 M.length c'/\M.map (·.m)=ls.map (·.m)/\Γ = Ω aZ 5 PT a3 c' M::Ψ iJ M::Ψ iJ ls::L):=by
 refine Τ.bd ?_;by_cases h0:ls.length=0
 .have e:ls=[]:=cd h0;subst e;refine Nd ?_;intros;exact KX.a8 aF ((F.a8 iJ).trans (F.c8 aZ 5 PT)) ⟨none,0,[],rfl,rfl,rfl⟩
 refine Nd ?_;intros;refine GO.ef (Ef.j5 aZ XN rfl rfl rfl D D D D) ae ?_;rintro _ _⟨bs,rfl,rfl⟩;rw[show(ls.length:Int).toNat=ls.length by omega];refine Nd ?_;intros
 refine Α.loop (α:=Nat×List Nl) (λz=>z.1<=ls.length/\z.2.length=ls.length/\(z.2.take z.1).map (·.m)=(ls.take z.1).map (·.m)) (λz=>[(1,.func (.func 111) #[] #[]),(5,ah (some ⟨bs,0,none⟩) ls.length ls.length),(14,ah ad ls.length c),(15,J (ls.length:Int)),(16,J (z.1:Int))])
  (λz=>Ω aZ 5 PT (some ⟨bs,0,none⟩) ls.length z.2::Ψ iJ (z.2.take z.1)::Ψ iJ ls::L) (λz=>ls.length - z.1) (0,List.replicate ls.length XN) ⟨aC _,by simp,by simp⟩ aD ?_ ?_
 .dsimp only;rw[bj];refine(F.a8 iJ).trans ?_;exact ak
 rintro⟨i,zs⟩ ⟨hi,a6,B⟩;dsimp only at hi a6 B ⊢;by_cases a2:i<ls.length
 case neg =>
  have a7:i=ls.length:=D;subst a7;rw[aM D,aM D] at B;rw[aM (D:zs.length<=ls.length)];refine Nd ?_;intros;refine KX.a8 aF (F.refl _) ⟨some ⟨bs,0,none⟩,ls.length,zs,by rw[a6];rfl,B,rfl⟩
 have a4:(i:Int).toNat=i:=D;have a5:ls[i]!∈ls:=bA a2;have b0:=hp _ a5;refine Nd ?_;intros;rename_i b7;rw[a4];refine GO.cL (Γ:=iJ ls[i]!::(Ω aZ 5 PT (some ⟨bs,0,none⟩) ls.length zs::Ψ iJ (zs.take i)::Ψ iJ ls::L)) ((F.at (Ο:=Ψ iJ ls) (F.d8 (f:=iJ) a5)).trans ak) ?_;refine GO.ef (Ef.c7 (first:=[]) (cap:=[]) (vs:=[bF (aZ ls[i]!)]) (Ag ls[i]! b0) rfl rfl) ae ?_;rintro _ _⟨m',rfl,a9,rfl⟩;refine Nd ?_;intros;refine GO.NH (Ef.k7 (e:=m') rfl rfl bh bh (ln _) D) ?_;rintro _ _ rfl;rw[a4];refine Nd ?_;intros;refine⟨(i+1,zs.set i m'),⟨by dsimp only;omega,by dsimp only;simp;omega,?_⟩,by dsimp only;omega,?_,?_⟩
 .dsimp only;rw[iP D,aB a2,aQ,aQ,B,<-D7 a2];simp[a9]
 .dsimp only;rw[bC i];exact aD
 .dsimp only;rw[iP D];refine(F.at (Ο:=iJ m') (F.d7 (f:=iJ) fB)).trans ?_;refine(F.at (Ο:=Ψ iJ [m']) (F.refl _)).trans ?_;refine(F.at (Ο:=Ψ iJ (zs.take i)) (F.refl _)).trans ?_;refine(F.c9 (f:=iJ) fB).trans ?_;exact ak
end
section
open Go.V
def S6(n:Int)(a:Int×Int):Prop:=0<=a.1/\a.1<n/\1<=a.2/\a.2<=1099511627776
def RA(n:Int):Int->List (Int×Int)->Prop
 | _,[]=>True
 | p,a::l=>S6 n a/\p<a.1/\RA n a.1 l
noncomputable instance (n:Int) (a:Int×Int):Decidable (S6 n a):=Classical.propDecidable _
noncomputable instance (n p:Int) (l:List (Int×Int)):Decidable (RA n p l):=Classical.propDecidable _
def rH(l:List (Int×Int))(i:Nat):Int:=if i=0 then -1 else l[i - 1]!.1
structure UZ (G n:Int) (l:lu):Prop where
 d:0<=l.d/\l.d<G
 ts:0<=l.ts/\l.ts<G
 fr:kl l.fr
 to:kl l.to
 ne:¬l.am.length=0
 WO:RA n (-1) l.am
def jG(G n:Int)(ls:List lu):Prop:=(1<=ls.length/\ls.length<=32)/\∀l∈ls,UZ G n l
noncomputable instance (G n:Int) (ls:List lu):Decidable (jG G n ls):=Classical.propDecidable _
attribute [local irreducible] Α GO GP δ ms GF GE Ev Ef C0 F CB GB V.Enters bJ
def AN{L:Η}(n:Int)(a:Int×Int):Τ Θ 129 #[J n,bF (dZ a)] L (F3 (.bool (dB (S6 n a))) L):=by
 by_cases K:0<=a.1
 .by_cases T:a.1<n
  .by_cases h3:1<=a.2
   .have e:dB (S6 n a)=dB (a.2<=1099511627776):=by
     by_cases h4:a.2<=1099511627776
     .rw[bN h4,bN ⟨K,T,h3,h4⟩]
     .rw[bB h4,bB λq=>h4 q.2.2.2]
    rw[e];refine Τ.bd ?_;refine Nd ?_;intros;exact KX.en ⟨rfl,rfl⟩
   .rw[bB (show ¬S6 n a from λq=>h3 q.2.2.1)];refine Τ.bd ?_;refine Nd ?_;intros;exact KX.en ⟨rfl,rfl⟩
  .rw[bB (show ¬S6 n a from λq=>T q.2.1)];refine Τ.bd ?_;refine Nd ?_;intros;exact KX.en ⟨rfl,rfl⟩
 .rw[bB (show ¬S6 n a from λq=>K q.1)];refine Τ.bd ?_;refine Nd ?_;intros;exact KX.en ⟨rfl,rfl⟩
theorem xi{L:Η}(n:Int)(hn:0<=n/\n<=64)(ad:OA)(m c:Nat)(l:List (Int×Int))[hrd:F2 L ad (Int×Int) dZ 2 l](hm:m=l.length)(U:l.length<=1000) :
  Τ Θ 69 #[J n,ah ad m c] L (F3 (.bool (dB (RA n (-1) l))) L):=by
 subst hm;have e1:¬n<0:=D;have e2:¬n>64:=D;refine Τ.bd ?_;refine Nd ?_;intros;refine Α.loop (α:=Nat) (λi=>i<=l.length/\(RA n (-1) l↔RA n (rH l i) (l.drop i))) (λi=>[(0,J n),(5,J (rH l i)),(14,ah ad l.length c),(15,J (l.length:Int)),(16,J (i:Int))]) (λi=>L) (λi=>l.length - i) 0 ⟨aC _,by rw[List.drop_zero];rfl⟩ aD (F.refl _) ?_;rintro i ⟨hi,ha⟩;by_cases B:i<l.length
 case neg =>
  have hT:RA n (-1) l:=by
   rw[ha,bU D];trivial
  rw[bN hT];refine Nd ?_;intros;exact KX.en ⟨rfl,rfl⟩
 have a2:(i:Int).toNat=i:=D
 have M:RA n (rH l i) (l.drop i)↔(S6 n l[i]!/\rH l i<l[i]!.1/\RA n l[i]!.1 (l.drop (i+1))):=by
  rw[bY B,<-D7 B];rfl
 have a3:rH l (i+1)=l[i]!.1:=rfl;rw[M] at ha;generalize rH l i=p at *;refine Nd ?_;intros;rename_i b7;rw[a2];refine GO.cL (Γ:=obj b7 67 (dZ l[i]!)::L) ak ?_;refine GO.cr (AN n l[i]!) ?_;by_cases K:S6 n l[i]!
 case neg =>
  have hF:¬RA n (-1) l:=aj;rw[bB hF,bB K];refine Nd ?_;intros;exact KX.en ⟨rfl,rfl⟩
 rw[bN K];by_cases T:p<l[i]!.1
 case neg =>
  have hF:¬RA n (-1) l:=aj;have h3:l[i]!.1<=p:=D;rw[bB hF];simp only[dZ];refine Nd ?_;intros;exact KX.en ⟨rfl,rfl⟩
 have h3:¬l[i]!.1<=p:=D;simp only[dZ];refine Nd ?_;intros;refine⟨i+1,⟨D,?_⟩,D,?_,by exact ak⟩
 .grind
 .rw[bC i,a3];exact aD
def Fm{L:Η}(b:Nat)(S:Ρ) :
  Τ Θ 166 #[av b] (aU b S::L) (λv Γ=>∃c' : L1,v=.agg c'.cells.toArray/\(c'.m=S.π/\c'.fG)/\Γ = aU b S::L):=by
 refine Τ.bd ?_;refine Α.c9 (f:=jY b S) ?_;intro x;simp only[jY,E1,cJ,au,ax];refine Α.d7 ?_;intro hF;refine Nd ?_;intros;refine GO.cL (F.at (Ο:=Oz x.π) (F.refl _)) ?_;refine GO.ca (ql x.π hF.UP) ?_;rintro _ _⟨c',rfl,B,rfl⟩;simp only[L1.cells];refine Nd ?_;intros;refine KX.a8 (by exact C7.cell rfl bh (C7.nil)) ?_ ⟨c',rfl,⟨B.trans hF.π,L1.a8 B hF.UP⟩,rfl⟩;refine F.drop.trans (F.drop.trans ?_);refine F.trans ?_ (jf x hF);simp only[E1,cJ];exact ak
def wY{L:Η}(nb lb:Nat)(d G μ U:Int)(mb mp mr:Nat)(S:Ρ)(hc:S.π.B5.length<=64)(ad:OA)(m c:Nat)(ls:List Nl)(hm:m=ls.length)(b2:ls.length<=1000)(a7:∀l∈ls,l.m.am.length<=1000) :
  Τ Θ 109 #[av nb,ah ad m c] (obj nb C4 (gL lb d G μ U mb mp mr)::aU lb S::ξ aZ 5 ad ls::Ψ iJ ls::L) (F3 (.bool (dB (jG G S.π.B5.length (ls.map (·.m))))) (obj nb C4 (gL lb d G μ U mb mp mr)::aU lb S::ξ aZ 5 ad ls::Ψ iJ ls::L)):=by
 subst hm;have b4:(ls.map (·.m)).length=ls.length:=al _;generalize hN:(S.π.B5.length:Int)=N;have a6:0<=N/\N<=64:=D;have a3:=λ (k:Int) (ε:Η)=>qM (L:=ε) nb lb d G μ U mb mp mr k;simp only[gL] at a3;refine Τ.bd ?_;simp only[gL];by_cases K:ls.length<1
 .rw[bB (show ¬jG G N (ls.map (·.m)) from λq=>by have:=q.1.1;omega)];refine Nd ?_;intros;exact KX.en ⟨rfl,rfl⟩
 by_cases T:ls.length>32
 .rw[bB (show ¬jG G N (ls.map (·.m)) from λq=>by have:=q.1.2;omega)];refine Nd ?_;intros;exact KX.en ⟨rfl,rfl⟩
 refine Nd ?_;intros;refine GO.cL (Γ:=aU lb S::(obj nb C4 [av lb,J d,J G,J μ,J U,.map (some mb),.map (some mp),.map (some mr)]::ξ aZ 5 ad ls::Ψ iJ ls::L)) ak ?_;refine GO.ca (Fm lb S) ?_;rintro _ _⟨cv,rfl,⟨a9,b3⟩,rfl⟩;have b1:(cv.B5.length:Int)=N:=by rw[<-hN,<-a9];rfl
 simp only[L1.cells];refine GO.ev (Ev.A1 (off:=0) (fs:=Tryz.prog.fieldsOf 116) (fd:=(Tryz.prog.fieldsOf 116)[0]!) Ζ Ζ Ζ (λ_=>Ζ) rfl rfl) ae ?_;refine Nd ?_;intros;rw[b1];refine Α.loop (α:=Nat) (λi=>i<=ls.length/\∀l∈ls.take i,UZ G N l.m) (λi=>[(0,av nb),(5,J N),(23,ah ad ls.length c),(24,J (ls.length:Int)),(25,J (i:Int))]) (λi=>obj nb C4 [av lb,J d,J G,J μ,J U,.map (some mb),.map (some mp),.map (some mr)]::aU lb S::ξ aZ 5 ad ls::Ψ iJ ls::L) (λi=>ls.length - i) 0 ⟨aC _,λl h=>hD h (by rw[bj];exact aG)⟩ aD ak ?_;rintro i ⟨hi,ha⟩;by_cases a4:i<ls.length
 case neg =>
  rw[aM D] at ha
  have hT:jG G N (ls.map (·.m)):=⟨D,λl U=>by
   obtain⟨x,O,rfl⟩:=H9 U;exact ha x O⟩
  rw[bN hT];refine Nd ?_;intros;exact KX.en ⟨rfl,rfl⟩
 have b0:(i:Int).toNat=i:=D;have M:ls[i]!∈ls:=bA a4;have B:¬UZ G N ls[i]!.m->¬jG G N (ls.map (·.m)):=λh q=>h (q.2 _ (PB M));have a2:=a7 _ M;generalize hle:ls[i]! = l at *;refine Nd ?_;intros;rename_i b7;rw[b0,hle];refine GO.ef (Ef.j9 (a3 l.m.d _) rfl) ae ?_;rintro _ _⟨rfl,rfl⟩;by_cases h3:0<=l.m.d/\l.m.d<G
 case neg =>
  rw[bB h3,bB (B λq=>h3 q.d)];refine Nd ?_;intros;exact KX.en ⟨rfl,rfl⟩
 rw[bN h3];refine Nd ?_;intros;refine GO.ef (Ef.j9 (a3 l.m.ts _) rfl) ae ?_;rintro _ _⟨rfl,rfl⟩;by_cases h4:0<=l.m.ts/\l.m.ts<G
 case neg =>
  rw[bB h4,bB (B λq=>h4 q.ts)];refine Nd ?_;intros;exact KX.en ⟨rfl,rfl⟩
 rw[bN h4];refine Nd ?_;intros;refine GO.cr (qN l.m.fr) ?_;by_cases h5:kl l.m.fr
 case neg =>
  rw[bB h5,bB (B λq=>h5 q.fr)];refine Nd ?_;intros;exact KX.en ⟨rfl,rfl⟩
 rw[bN h5];refine Nd ?_;intros;refine GO.cr (qN l.m.to) ?_;by_cases h6:kl l.m.to
 case neg =>
  rw[bB h6,bB (B λq=>h6 q.to)];refine Nd ?_;intros;exact KX.en ⟨rfl,rfl⟩
 rw[bN h6];by_cases h7:l.m.am.length=0
 .have a5 : (l.m.am.length:Int)=0:=D;rw[bB (B λq=>q.ne h7)];refine Nd ?_;intros;exact KX.en ⟨rfl,rfl⟩
 have a5 : ¬(l.m.am.length:Int)=0:=D;refine Nd ?_;intros;refine GO.cL (F.at (Ο:=Ψ iJ ls) (F.d8 (f:=iJ) M)) ?_;refine GO.cr (xi N a6 l.ad l.m.am.length l.cap l.m.am rfl a2) ?_;by_cases h8:RA N (-1) l.m.am
 case neg =>
  rw[bB h8,bB (B λq=>h8 q.WO)];refine Nd ?_;intros;exact KX.en ⟨rfl,rfl⟩
 rw[bN h8];refine Nd ?_;intros;refine⟨i+1,⟨D,λx O=>?_⟩,D,?_,by exact ak⟩
 .rw[aB a4] at O;rcases J8 O with O|O
  .exact ha x O
  .rw[F6 O,<-D7 a4,hle];exact⟨h3,h4,h5,h6,h7,h8⟩
 .rw[bC i];exact aD
end
section
open Go.V
def bX(ls:List lu)(k:Nat):List Int:=((List.range k).map λ (i:Nat)=>(i:Int)).filter λs=>decide (∃l∈ls,l.d=s)
theorem zH(ls:List lu)(k:Nat):bX ls (k+1)=bX ls k++(if ∃l∈ls,l.d=(k:Int) then[(k:Int)] else[]):=by
 unfold bX;rw[dc,aQ,List.filter_append];congr 1;by_cases h:∃l∈ls,l.d=(k:Int)
 .grind
 grind
theorem lQ(ls:List lu)(k:Nat):(bX ls k).length<=k:=by
 grind [bX]
theorem Vs{ls:List lu}{k:Nat}{g:Int}:g∈bX ls k↔(0<=g/\g<k)/\∃l∈ls,l.d=g:=by
 unfold bX;rw[List.mem_filter,List.mem_map];refine⟨aj,λ⟨h,q⟩=>⟨⟨g.toNat,List.mem_range.2 D,D⟩,by simpa using q⟩⟩
theorem ju(ls:List lu)(k:Nat):(bX ls k).Nodup:=by
 grind [bX,List.nodup_range]
theorem Ap{n:Int}:∀{p:Int} {l:List (Int×Int)},RA n p l->p<n->(l.length:Int)<=n - p - 1
 | _,[],_,h=>aj
 | p,a::l,h,hp=>by
  obtain⟨K,T,h3⟩:=h;have:=Ap h3 K.2.1
  grind
theorem Ao{n:Int}:∀{p:Int} {l:List (Int×Int)},RA n p l->∀a∈l,S6 n a
 | _,[],_,_,h=>aj
 | _,b::l,h,a,ha=>by
  rcases Nj ha with rfl|ha
  .exact h.1
  .exact Ao h.2.2 a ha
def UZ.ok{G n:Int}{l:lu}(h:UZ G n l)(hs:G<=12)(hn:0<=n/\n<=64):lR l:=by
 obtain⟨K,T⟩:=h.fr;obtain⟨h3,h4⟩:=h.to;have h5:=h.d;have h6:=h.ts;have h7:=Ap h.WO D;refine⟨⟨?_,?_,?_,?_⟩,D,λa ha=>?_⟩;iterate 4 (unfold vi;omega)
 obtain⟨q1,q2,q3,q4⟩:=Ao h.WO a ha;unfold vi;omega
noncomputable def fL(d G:Int)(ls:List lu)(E C6:Int)(N:υ)(S:Ρ):(Int×Int)×L8 :=
 if C6>1099511627776\/¬jG G S.π.B5.length ls then((0,1),[],N,S)
 else if C6<E then((0,14),[],N,S)
 else((d*4294967296+N.μ,0),L9 d E (ck d (bX ls G.toNat) [] ⟨1,d*4294967296+N.μ,0,false,ls,[]⟩) { N with μ:=N.μ+1,Φ:=cZ N.Φ (d*4294967296+N.μ) ⟨ls,bX ls G.toNat,C6,[],[],false,false⟩ } S)
theorem CG{G n A:Int}{ls:List lu}(h:jG G n ls)(hs:G<=12)(hn:0<=n/\n<=64)(B:vi A):O7 ⟨1,A,0,false,ls,[]⟩ :=
 ⟨by grind [vi],h.1.2,λl U=>(h.2 l U).ok hs hn,aC _,aj⟩
theorem ra{d:Int}{ct:G3}:∀{gs:List Int},gs.Nodup->gx d (gs.map λg=>(⟨d,g,ct⟩:eU))<=2*NN ct.Z
 | [],_=>aC _
 | g::gs,h=>by
  obtain⟨K,T⟩:=List.nodup_cons.1 h;have ih:=ra (d:=d) (ct:=ct) T;grind [gx,cost,kf]
theorem mB(d:Int)(gs:List Int)(ct:G3):ck d gs [] ct=gs.map λg=>(⟨d,g,ct⟩:eU):=by
 grind [ck,List.filter_eq_self]
theorem wO{d G n A:Int}{ls:List lu}(h:jG G n ls)(hs:G<=12)(hn:0<=n/\n<=64)(B:vi A){gs:List Int}:∀y∈ck d gs [] ⟨1,A,0,false,ls,[]⟩,Rl d 7 y:=λy Y=>by
 rw[mB] at Y;obtain⟨g,_,rfl⟩:=H9 Y;exact⟨CG h hs hn B,by decide,aj⟩
theorem Am{π:B0}{d G:Int}{N:υ}{S:Ρ}{A u:Int}{ls:List lu}(h:NG π d N S)(hs:G<=12):NG π d { N with μ:=N.μ+1,Φ:=cZ N.Φ A ⟨ls,bX ls G.toNat,u,[],[],false,false⟩ } S :=
 ⟨h.K1,h.U,h.nd,λp hp=>by
  rcases jT hp with rfl|hp
  .grind [lQ]
  .exact h.O9 p hp,h.pts⟩
theorem jJ{α:Type}{f:α->Nat}{C:Nat}:∀{l:List α},(∀x∈l,f x<=C)->(l.map f).sum<=l.length*C
 | [],_=>aC _
 | x::l,h=>by
  have K:=h x aj;have T:=jJ (l:=l) λy Y=>h y (az _ Y);rw[aq,aS,aK,dY];omega
theorem HF{π:B0}{d E:Int}{gs:List Int}{ct:G3}{N:υ}{S:Ρ}(hg:gs.length<=100)(hP:∀y∈ck d gs [] ct,Rl d 7 y)(hN:NG π d N S)(hb:dg S+F0 N+gx d (ck d gs [] ct)<=2000):(L9 d E (ck d gs [] ct) N S).1.length<=1000000:=by
 obtain⟨_,_,_,h4⟩:=nt (E:=E) (Μ:=7) _ _ _ 2000 D hP hN hb;have h5:=jJ (f:=λm:eU=>Qg m.ct.Δ) (C:=3300) (l:=ck d gs [] ct) λm _=>re _;grind [L9,ck]
theorem MT{n:G0}{A:Int}(hn:(n.Φ.map (·.1)).Nodup)(h:List.lookup A n.Φ=none)(y:Ow){L:Η}:F (OJ y (ey I4 n.Φ::L)) (ey I4 (cZ n.Φ A y)::L):=by
 have e:I1 n.Φ A=n.Φ:=pS aj;refine F.trans (fG:=I4 (A,y)::ey I4 (I1 n.Φ A)::L) ?_ (F.k7 hn y);rw[e];exact F.f7 (Ο:=[obj y.b PI (NW y),cS gm bL y.mv (NA y.I8),cS gm bL y.mt (NA y.told),ξ aZ 5 y.bG y.Z,Ψ iJ y.Z,ξ (dJ .i64) 1 y.G4 y.iM])
attribute [local irreducible] Α GO GP δ ms GF GE Ev Ef C0 F CB GB V.Enters bJ L9
def EP{L:Η}(l:Nl)(bs:Nat)(s:Int):Τ Θ 113 #[bF (aZ l),av bs] (obj bs B7 [J s]::L) (F3 (.bool (dB (l.m.d=s))) (obj bs B7 [J s]::L)):=by
 refine Τ.bd ?_;refine Nd ?_;intros;exact KX.en ⟨rfl,rfl⟩
theorem xf{L:Η}(bs:Nat)(s:Int)(ad:OA)(n c:Nat)(ls:List Nl)(hn:n=ls.length)(U:ls.length<=1000) :
  Τ Θ 169 #[ah ad n c,.func (.func 113) #[] #[av bs]] (obj bs B7 [J s]::ξ aZ 5 ad ls::L) (λv Γ=>∃k:Int,v=J k/\(0<=k↔∃o∈ls,o.m.d=s)/\Γ = obj bs B7 [J s]::ξ aZ 5 ad ls::L):=by
 subst hn;refine Τ.bd ?_;refine Nd ?_;intros;refine Α.loop (α:=Nat) (λi=>i<=ls.length/\∀o∈ls.take i,¬o.m.d=s) (λi=>[(0,ah ad ls.length c),(1,.func (.func 113) #[] #[av bs]),(7,J (ls.length:Int)),(8,J (i:Int))]) (λi=>obj bs B7 [J s]::ξ aZ 5 ad ls::L) (λi=>ls.length - i) 0 aj aD (F.refl _) ?_;rintro i ⟨hi,ha⟩;by_cases M:i<ls.length
 case neg =>
  rw[aM D] at ha;refine Nd ?_;intros;refine KX.a8 aF (F.refl _) ⟨-1,rfl,⟨D,aj⟩,rfl⟩
 have B:(i:Int).toNat=i:=D;have a2:ls[i]!∈ls:=bA M;refine Nd ?_;intros;rw[B];refine GO.ef (Ef.c7 (first:=[]) (cap:=[av bs]) (vs:=[bF (aZ ls[i]!)]) (EP ls[i]! bs s) rfl rfl) ae ?_;rintro _ _⟨rfl,rfl⟩;by_cases hs:ls[i]!.m.d=s
 .rw[bN hs];refine Nd ?_;intros;refine KX.a8 aF (F.refl _) ⟨(i:Int),rfl,⟨aj,D⟩,rfl⟩
 .rw[bB hs];refine Nd ?_;intros;refine⟨i+1,⟨D,λo ho=>?_⟩,D,?_,F.refl _⟩
  .grind [aB]
  .rw[bC i];exact aD
theorem tE{L:Η}(bs:Nat)(s:Int)(ad:OA)(n c:Nat)(ls:List Nl)(hn:n=ls.length)(U:ls.length<=1000) :
  Τ Θ 112 #[ah ad n c,.func (.func 113) #[] #[av bs]] (obj bs B7 [J s]::ξ aZ 5 ad ls::L) (λv Γ=>v=.bool (dB (∃o∈ls.map (·.m),o.d=s))/\Γ = obj bs B7 [J s]::ξ aZ 5 ad ls::L):=by
 refine Τ.bd ?_;refine Nd ?_;intros;refine GO.ca (xf (L:=L) bs s ad n c ls hn U) ?_;rintro _ _⟨k,rfl,hk,rfl⟩;refine Nd ?_;intros;refine KX.a8 aF (F.refl _) ⟨?_,rfl⟩;refine congrArg Value.bool ?_;grind [dH]
end
section
open Go.V
attribute [local irreducible] Α GO GP δ ms GF GE Ev Ef C0 F CB GB V.Enters bJ L9
abbrev Eh:=Zc [.ev 10]
abbrev Bh:=Za [.ef 6,.ef 7,.ev 8,.ev 9,.ef 10]
def WV{φ ψ:Prop}(k:ψ)(h:Hid ψ->φ:=by intro k;(repeat (first|refine ab ?_|intro B6|refine Α.dr 89 5 Eh ?_|refine Α.dr 89 12 Bh ?_));(repeat revert B6);exact Hid.out k):φ:=h ⟨k⟩
def uR{L:Η}(nb lb:Nat)(d G:Int)(b6:0<=d/\d<G/\G<=12)(n:G0)(S:Ρ)(π:B0)(hN:NG π d n.m S)(hi:S.π.B5.length<=64)(c6:0<=n.μ/\n.μ<=1000000)(ad:OA)(m c:Nat)(ls:List Nl)(hm:m=ls.length)(M:ls.length<=1000)(c0:∀l∈ls,l.m.am.length<=1000)(E C6:Int)(hk:dg S+F0 n.m+2*NN (ls.map (·.m))<=2000)(b2:ζ n.m.Φ (d*4294967296+n.μ)=none) :
  Τ Θ 50 #[av nb,ah ad m c,J E,J C6] (ξ aZ 5 ad ls::Ψ iJ ls::eu nb lb d G n (aU lb S::L)) (λv Γ=>∃b9 a3 Q n',v=.tuple #[J (fL d G (ls.map (·.m)) E C6 n.m S).1.1,ah b9 Q.length a3,J (fL d G (ls.map (·.m)) E C6 n.m S).1.2]/\Q.map (·.m)=(fL d G (ls.map (·.m)) E C6 n.m S).2.1/\n'.m=(fL d G (ls.map (·.m)) E C6 n.m S).2.2.1/\Γ = Ω bq 3 B1 b9 a3 Q::Ψ gM Q::eu nb lb d G n' (aU lb (fL d G (ls.map (·.m)) E C6 n.m S).2.2.2::L)):=by
 subst hm;have c2:0<=(S.π.B5.length:Int)/\(S.π.B5.length:Int)<=64:=D;have c1:n.m.μ=n.μ:=rfl;generalize hid:d*4294967296+n.μ=A at *;have a4:vi A:=by unfold vi;omega
 have d6:List.lookup A n.Φ=none:=by
  rw[fW] at b2;cases h:List.lookup A n.Φ with
  | none=>rfl
  | some x=>rw[h] at b2;cases b2
 generalize hR:fL d G (ls.map (·.m)) E C6 n.m S=R;unfold fL at hR;rw[c1,hid] at hR;have B:∀{ε:Η},F ε (Ω bq 3 B1 none 0 []::Ψ gM []::ε):=λ {ε}=>(F.a8 gM).trans (F.c8 bq 3 B1);refine Τ.bd ?_;simp only[eu,gL];refine Α.c8 (eO (b:=n.mb)) λhn=>?_;by_cases K:C6>1099511627776
 .rw[Χ (.inl K)] at hR;subst hR;refine WV ?_;intros;refine KX.a8 aF ?_ ⟨none,0,[],n,rfl,rfl,rfl,rfl⟩;refine B.trans ?_;simp only[eu,gL];exact ak
 refine WV ?_;intros;refine GO.cL (Γ:=obj nb C4 (gL lb d G n.μ n.U n.mb n.mp n.mr)::aU lb S::ξ aZ 5 ad ls::Ψ iJ ls::(cS gm cy n.mb n.Φ::ey I4 n.Φ::cS gm cC n.mp n.Β::ey H6 n.Β::cS D5 bL n.mr (J6 n.sh)::L)) (by simp only[gL];exact ak) ?_;refine GO.cr (wY nb lb d G n.μ n.U n.mb n.mp n.mr S hi ad ls.length c ls rfl M c0) ?_;simp only[gL];by_cases T:jG G S.π.B5.length (ls.map (·.m))
 case neg =>
  rw[Χ (.inr T)] at hR;subst hR;rw[bB T];refine WV ?_;intros;refine KX.a8 aF ?_ ⟨none,0,[],n,rfl,rfl,rfl,rfl⟩;refine B.trans ?_;simp only[eu,gL];exact ak
 rw[Ν (λq=>q.elim K λq=>q T)] at hR;rw[bN T];by_cases h3:C6<E
 .rw[Χ h3] at hR;subst hR;refine WV ?_;intros;refine KX.a8 aF ?_ ⟨none,0,[],n,rfl,rfl,rfl,rfl⟩;refine B.trans ?_;simp only[eu,gL];exact ak
 rw[Ν h3] at hR;have b5:=wO (d:=d) T b6.2.2 c2 a4 (gs:=bX (ls.map (·.m)) G.toNat);have hin:=Am (G:=G) (A:=A) (u:=C6) (ls:=ls.map (·.m)) hN b6.2.2
 have d0:gx d (ck d (bX (ls.map (·.m)) G.toNat) [] ⟨1,A,0,false,ls.map (·.m),[]⟩)<=2*NN (ls.map (·.m)):=by
  rw[mB];exact ra (ju _ _)
 have e3:=lQ (ls.map (·.m)) G.toNat;have a6:=HF (E:=E) D b5 hin (by unfold F0 at hk ⊢;dsimp only;omega);refine WV ?_;intros;refine δ.M8 (Ev.A2 rfl rfl D D) ae ?_;refine WV ?_;intros;rw[hid];refine GO.cL (Γ:=Ψ iJ ls::(ξ aZ 5 ad ls::obj nb C4 [av lb,J d,J G,J (n.μ+1),J n.U,.map (some n.mb),.map (some n.mp),.map (some n.mr)]::cS gm cy n.mb n.Φ::ey I4 n.Φ::cS gm cC n.mp n.Β::ey H6 n.Β::cS D5 bL n.mr (J6 n.sh)::aU lb S::L)) ak ?_;refine GO.ca (zY ad c ls M c0) ?_;rintro _ _⟨bG,hx,I,rfl,b7,rfl⟩;refine GO.cL F.N9 ?_;refine WV ?_;intros;refine GO.ef (Ef.c8 gm bL (.inl rfl)) ae ?_;rintro _ _⟨mv,rfl,rfl⟩;refine GO.ef (Ef.c8 gm bL (.inl rfl)) ae ?_;rintro _ _⟨mt,rfl,rfl⟩;refine WV ?_;intros;rename_i bx;refine Α.loop (α:=Nat×OA×Nat) (λg=>(g.1:Int)<=G) (λg=>[(0,av nb),(1,ah ad ls.length c),(2,J E),(11,J A),(12,av bx),(52,J G),(53,J (g.1:Int))]) (λg=>Ω (dJ .i64) 1 B7 g.2.1 g.2.2 (bX (ls.map (·.m)) g.1)::obj bx PI [ah bG I.length hx,ah g.2.1 (bX (ls.map (·.m)) g.1).length g.2.2,J C6,.map (some mv),.map (some mt),.bool false,.bool false]::cS gm bL mv []::cS gm bL mt []::ξ aZ 5 bG I::Ψ iJ I::Ψ iJ ls::ξ aZ 5 ad ls::obj nb C4 [av lb,J d,J G,J (n.μ+1),J n.U,.map (some n.mb),.map (some n.mp),.map (some n.mr)]::cS gm cy n.mb n.Φ::ey I4 n.Φ::cS gm cC n.mp n.Β::ey H6 n.Β::cS D5 bL n.mr (J6 n.sh)::aU lb S::L) (λg=>G.toNat - g.1) (0,none,0) uQ aD ?_ ?_
 .dsimp only;refine(F.c8 (dJ .i64) 1 B7).trans ?_;rw[show bX (ls.map (·.m)) 0=[] from rfl];exact ak
 rintro⟨k,G4,M3⟩ d3;dsimp only at d3 ⊢;have e2:=lQ (ls.map (·.m)) k;by_cases e4:(k:Int)<G
 .have a7:=zH (ls.map (·.m)) k;refine WV ?_;intros;rename_i bs;refine GO.cL (Γ:=obj bs B7 [J (k:Int)]::ξ aZ 5 ad ls::(Ω (dJ .i64) 1 B7 G4 M3 (bX (ls.map (·.m)) k)::obj bx PI [ah bG I.length hx,ah G4 (bX (ls.map (·.m)) k).length M3,J C6,.map (some mv),.map (some mt),.bool false,.bool false]::cS gm bL mv []::cS gm bL mt []::ξ aZ 5 bG I::Ψ iJ I::Ψ iJ ls::obj nb C4 [av lb,J d,J G,J (n.μ+1),J n.U,.map (some n.mb),.map (some n.mp),.map (some n.mr)]::cS gm cy n.mb n.Φ::ey I4 n.Φ::cS gm cC n.mp n.Β::ey H6 n.Β::cS D5 bL n.mr (J6 n.sh)::aU lb S::L)) ak ?_;refine GO.cr (tE bs (k:Int) ad ls.length c ls rfl M) ?_;by_cases hg:∃l∈ls.map (·.m),l.d=(k:Int)
  .rw[Χ hg] at a7;rw[bN hg];refine WV ?_;intros;refine δ.ef (Ef.a8 (Ε:=dJ .i64) (e:=(k:Int)) rfl rfl rfl rfl rfl bh (io _ _) D D) ae ?_;rintro _ _⟨c4,a9,rfl,rfl⟩;rw[<-a7];refine WV ?_;intros;refine⟨(k+1,c4,a9),by dsimp only;omega,by dsimp only;omega,?_,by exact ak⟩;dsimp only;rw[bC k];exact aD
  .rw[Ν hg,aI] at a7;rw[bB hg];refine WV ?_;intros;refine⟨(k+1,G4,M3),by dsimp only;omega,by dsimp only;omega,?_,?_⟩
   .dsimp only;rw[bC k];exact aD
   .dsimp only;rw[a7];exact ak
 have d4:k=G.toNat:=D;subst d4;generalize hgs:bX (ls.map (·.m)) G.toNat=gs at *;refine Α.cL F.N9 ?_;let x:Ow:=⟨bx,I,bG,hx,gs,G4,M3,C6,[],mv,[],mt,false,false⟩
 have e1:x.m=⟨ls.map (·.m),gs,C6,[],[],false,false⟩:=by
  show(⟨I.map (·.m),gs,C6,[],[],false,false⟩:K6)=_;rw[b7]
 have b1:=mA (L:=cS gm bL mv []::cS gm bL mt []::ξ aZ 5 bG I::Ψ iJ I::Ψ iJ ls::ξ aZ 5 ad ls::cS gm cy n.mb (cZ n.Φ A x)::ey I4 n.Φ::cS gm cC n.mp n.Β::ey H6 n.Β::cS D5 bL n.mr (J6 n.sh)::aU lb S::L) nb lb d G (n.μ+1) n.U n.mb n.mp n.mr x (D:gs.length<=100) (⟨1,A,0,false,I,bG,hx,[],none,0⟩:O6) (by
  have h:=CG T b6.2.2 c2 a4;rw[<-b7] at h;exact h) none [] (.inl ⟨rfl,rfl⟩)
 refine WV ?_;intros;refine GO.NH (Ef.d9 (Ε:=cy) x rfl rfl rfl rfl) ?_;rintro _ _ rfl;refine WV ?_;intros;refine GO.cL (Γ:=obj nb C4 (gL lb d G (n.μ+1) n.U n.mb n.mp n.mr)::M9 (⟨1,A,0,false,I,bG,hx,[],none,0⟩:O6)::obj x.b PI (NW x)::ξ (dJ .i64) 1 x.G4 x.iM::(cS gm bL mv []::cS gm bL mt []::ξ aZ 5 bG I::Ψ iJ I::Ψ iJ ls::ξ aZ 5 ad ls::cS gm cy n.mb (cZ n.Φ A x)::ey I4 n.Φ::cS gm cC n.mp n.Β::ey H6 n.Β::cS D5 bL n.mr (J6 n.sh)::aU lb S::L)) ?_ ?_
 .refine F.trans (fG:=ξ aZ 5 bG I::Ψ iJ I::(cS gm cy n.mb (cZ n.Φ A x)::ξ (dJ .i64) 1 G4 gs::obj bx PI (NW x)::cS gm bL mv []::cS gm bL mt []::Ψ iJ ls::ξ aZ 5 ad ls::obj nb C4 (gL lb d G (n.μ+1) n.U n.mb n.mp n.mr)::ey I4 n.Φ::cS gm cC n.mp n.Β::ey H6 n.Β::cS D5 bL n.mr (J6 n.sh)::aU lb S::L)) (by simp only[gL,NW];exact ak) ?_;refine(FV (A:=A) (x:=x)).trans ?_;exact ak
 refine GO.ca (b1) ?_;rintro _ _⟨b8,a2,Q,rfl,c3,rfl⟩;have d1:(⟨1,A,0,false,I,bG,hx,[],none,0⟩:O6).m=⟨1,A,0,false,ls.map (·.m),[]⟩:=by rw[<-b7];rfl
 rw[d1] at c3;have a5:Q.map (·.m)=ck d gs [] ⟨1,A,0,false,ls.map (·.m),[]⟩:=c3;rw[<-a5] at b5 d0 a6 hR;let n1:G0:={ n with μ:=n.μ+1,Φ:=cZ n.Φ A x }
 have b4:n1.m={ n.m with μ:=n.m.μ+1,Φ:=cZ n.m.Φ A ⟨ls.map (·.m),gs,C6,[],[],false,false⟩ }:=by
  show({ n with μ:=n.μ+1,Φ:=cZ n.Φ A x }:G0).m=_;rw[<-e1];exact rE { n with μ:=n.μ+1 } A x
 rw[c1] at b4 hin a6;rw[<-b4] at hin a6 hR;have e0:F0 n1.m=F0 n.m:=by rw[b4];rfl
 have b3:Q.length<=1000000:=by
  have e:=congrArg List.length a5;have:=kU d gs [] ⟨1,A,0,false,ls.map (·.m),[]⟩
  rw[al] at e;omega
 subst hR;dsimp only;refine WV ?_;intros;refine GO.cL (Γ:=Ω bq 3 B1 b8 a2 Q::Ψ gM Q::eu nb lb d G n1 (aU lb S::L)) ?_ ?_
 .refine F.trans (fG:=OJ x (ey I4 n.Φ::(Ω bq 3 B1 b8 a2 Q::Ψ gM Q::obj nb C4 (gL lb d G (n.μ+1) n.U n.mb n.mp n.mr)::cS gm cy n.mb (cZ n.Φ A x)::cS gm cC n.mp n.Β::ey H6 n.Β::cS D5 bL n.mr (J6 n.sh)::aU lb S::L))) (by simp only[OJ];rw[show NA x.I8=[] from rfl];exact ak) ?_;refine(MT hn d6 x).trans ?_;simp only[eu];exact ak
 refine GO.ca (nC nb lb d G n1 S π 2000 (an _) E b8 a2 Q (λy Y=>b5 _ (PB Y)) hin D b3 a6) ?_;rintro _ _⟨c5,b0,ds,n2,rfl,d2,d5,rfl⟩;refine WV ?_;intros;exact KX.en ⟨c5,b0,ds,n2,rfl,d2,d5,rfl⟩
