/- Lemmas. -/
import Derived.Test.YtlgpgjdggilkgaaGreatDoorErat
set_option linter.all false
set_option maxHeartbeats 8000000
namespace Go.Proofs.YtlgpgjdggilkgaaGreatDoor
section
open Go.V
attribute [local irreducible] Δ R GP Ο h2 O Ef A8 A CB GB V.Enters
abbrev Bb:=Uz [.ev 17,.ev 18,.ev 19,.ev 20,.ev 21,.ev 22,.ev 23,.ev 24,.ev 25,.ev 26,.ev 27,.ev 28,.ev 29,.ev 30]
abbrev Ba:=Ux [.ev 10,.ef 11]
def JZ{φ ψ:Prop}(k:ψ)(h:Hid ψ->φ:=by intro k;(repeat (first|refine aa ?_|intro sh|refine Δ.dr 59 4 Bb ?_|refine Δ.dr 59 5 Ba ?_));(repeat revert sh);exact Hid.out k):φ:=h ⟨k⟩
theorem sW{L:LH}(M:OA)(cap:Nat)(D:LL)(x:gq)(hl:D.length<=100000000)(a7:∀y∈D,H8 y)(K:H8 x) :
  Λ Ε 105 #[ae M D.length cap,bh (aI x)] (Υ aI 3 G1 M cap D::L) (λv Y=>∃a4 a2,v=ae a4 (bz D x).length a2/\Y = Υ aI 3 G1 a4 a2 (bz D x)::L):=by
 refine Λ.bd ?_;simp only[aI];by_cases h0:x.2.2=0
 .have e:bz D x=D:=by unfold bz;rw[μ h0]
  rw[e];refine JZ ?_;intros;exact KX.en ⟨M,cap,rfl,rfl⟩
 by_cases J:D.length=0
 .have e:bz D x=D++[x]:=by unfold bz;rw[Ω h0,Ω B]
  rw[e];refine JZ ?_;intros;refine R.ef (Ef.a8 (Β:=aI) (e:=x) rfl rfl rfl rfl rfl aS (fq _) B B) ac ?_;rintro _ _⟨I,r,rfl,rfl⟩;refine JZ ?_;intros;exact KX.en ⟨I,r,rfl,rfl⟩
 have a3:((D.length:Int) - 1).toNat=D.length - 1:=B;have a5:=a7 _ (bA (B:D.length - 1<D.length));rw[<-a3] at a5;unfold H8 at a5 K;by_cases hc:kw x D[((D.length:Int) - 1).toNat]!
 .have a6:=N7.1 hc;obtain⟨a9,b0⟩:=a6
  have e:bz D x=D.set ((D.length:Int) - 1).toNat (D[((D.length:Int) - 1).toNat]!.1,D[((D.length:Int) - 1).toNat]!.2.1,D[((D.length:Int) - 1).toNat]!.2.2+x.2.2):=by
   unfold bz;rw[a3] at hc ⊢;rw[Ω h0,μ ⟨J,hc⟩]
  rw[e];refine JZ ?_;intros;refine Ο.I1 (Ef.d9 (e:=((D[((D.length:Int) - 1).toNat]!.1,D[((D.length:Int) - 1).toNat]!.2.1,D[((D.length:Int) - 1).toNat]!.2.2+x.2.2):gq)) rfl rfl aS rfl B ac) ?_;rintro _ _ rfl;refine JZ ?_;intros;exact KX.a8 aw ag ⟨M,cap,by rw[bq];rfl,rfl⟩
 .have e:bz D x=D++[x]:=by
   unfold bz;rw[a3] at hc;rw[Ω h0,Ω ay]
  rw[e];rw[N7] at hc;by_cases hf:x.1=D[((D.length:Int) - 1).toNat]!.1
  .have ha:¬x.2.1=D[((D.length:Int) - 1).toNat]!.2.1+D[((D.length:Int) - 1).toNat]!.2.2:=B;refine JZ ?_;intros;refine R.ef (Ef.a8 (Β:=aI) (e:=x) rfl rfl rfl rfl rfl aS (fq _) B B) ac ?_;rintro _ _⟨I,r,rfl,rfl⟩;refine JZ ?_;intros;exact KX.en ⟨I,r,rfl,rfl⟩
  .refine JZ ?_;intros;refine R.ef (Ef.a8 (Β:=aI) (e:=x) rfl rfl rfl rfl rfl aS (fq _) B B) ac ?_;rintro _ _⟨I,r,rfl,rfl⟩;refine JZ ?_;intros;exact KX.en ⟨I,r,rfl,rfl⟩
abbrev AZ:=Uu [.ev 5,.ev 6,.ev 7,.ev 8,.ef 4,.ef 9,.ef 10,.ef 11,.ev 12]
def Ki{φ ψ:Prop}(k:ψ)(h:Hid ψ->φ:=by intro k;(repeat (first|refine aa ?_|intro sh|refine Δ.dr 17 1 AZ ?_));(repeat revert sh);exact Hid.out k):φ:=h ⟨k⟩
def CD{L:LH}(x y:gq):Λ Ε 118 #[bh (aI x),bh (aI y)] L (C9 (E (LW x y)) L):=by
 refine Λ.bd ?_;refine Ki ?_;intros;refine Ο.cr (jq x.1 y.1) ?_;refine Ki ?_;intros;refine Ο.cr (jq x.2.1 y.2.1) ?_;refine Ki ?_;intros;rename_i bc;refine Ο.υ (A.d9 (Β:=a0 .i64) (sz:=1) (D:=[KI x.1 y.1,KI x.2.1 y.2.1]) rfl rfl (λ_ _=>rfl) bR) ?_;refine Ο.cr (nC (some ⟨bc,0,none⟩) 2 (KI x.1 y.1) (KI x.2.1 y.2.1)) ?_;refine Ki ?_;intros;exact KX.en ⟨rfl,rfl⟩
def uB{Τ cap:Nat}{M:OA}{D:LL}(r:D.length<4611686018427387904) :
  Λ Ε 117 #[ae M D.length cap,.func (.func 118) #[] #[]] [Υ aI 3 Τ M cap D] (λv Y=>v=.tuple #[]/\∃ys,gc LW D ys/\Y = [Υ aI 3 Τ M cap ys]) :=
 Λ.a8 (ρ:=Tryz.RZ) Tryz.TM (k:=3) Tryz.isAgg47 Tryz.sizeOf47 (λ_=>rfl) fq (Lc:=[]) LW zM Ib Ty.1 (λ_ _ _=>trivial) (λx y=>(CD (L:=[]) x y).mono (λ_ _ h=>h.1)) r
def og{ys:LL}{k:Nat}(h:k<ys.length):Ju (ys.take (k+1))=KS (Ju (ys.take k)) ys[k]!:=jf KS [] h
theorem FQ(s:LL)(x:gq):(KS s x).length<=s.length+1:=by
 grind [KS]
def ug(ys:LL):∀k,k<=ys.length->(Ju (ys.take k)).length<=k
 | 0,_=>au _
 | k+1,h=>by
  have J:=ug ys k B;have U:=FQ (Ju (ys.take k)) ys[k]!;rw[og B];omega
def Co{ys:LL}(hw:∀y∈ys,π y):∀k,k<=ys.length->∀y∈Ju (ys.take k),π y
 | 0,_=>λ_ h=>by cases h
 | k+1,h=>by
  have J:=Co hw k B;have K:=hw _ (bA (B:k<ys.length));rw[og B];generalize ys[k]! = x at K;generalize Ju (ys.take k)=s at J;unfold π at K;unfold KS;split
  .rename_i hc;intro y Z;rcases List.mem_or_eq_of_mem_set Z with Z|rfl
   .exact J y Z
   .have:=J _ (bA (B:s.length - 1<s.length))
    unfold π at this ⊢;dsimp only;omega
  .intro y Z;rcases It Z with Z|Z
   .exact J y Z
   .rw[D6 Z];unfold π;omega
abbrev CM:=Uz [.ev 17,.ev 18,.ev 19,.ev 20,.ev 21,.ev 22,.ev 23,.ev 24,.ev 25,.ev 26,.ev 27,.ev 28,.ev 29,.ev 30]
abbrev AY:=Uz [.ev 17,.ef 18]
def Km{φ ψ:Prop}(k:ψ)(h:Hid ψ->φ:=by intro k;(repeat (first|refine aa ?_|intro sh|refine Δ.dr 80 8 CM ?_|refine Δ.dr 80 10 AY ?_));(repeat revert sh);exact Hid.out k):φ:=h ⟨k⟩
def ot{L:LH}(M:OA)(n c:Nat)(D:LL)[C7 L M gq aI 3 D](hn:n=D.length)(hl:D.length<=100000)(hw:∀x∈D,π x) :
  Λ Ε 56 #[ae M n c] L (λv Y=>∃b2 a5 ys,v=ae b2 (Ju ys).length a5/\gc LW D ys/\Y = Υ aI 3 G1 b2 a5 (Ju ys)::L):=by
 subst hn;refine Λ.bd ?_;refine Km ?_;intros;refine R.ca (gV M D.length c D rfl B) ?_;rintro _ _⟨a2,c1,rfl,rfl⟩;refine Km ?_;intros;(first|refine R.ef (Ef.call (uB (Τ:=G1) (M:=a2) (cap:=c1) (D:=D) B) rfl eY) ac ?_);rintro _ _⟨_,⟨rfl,ys,b1,rfl⟩,hL⟩;simp only[aj,ak] at hL;subst hL;have c2:=b1.1.length_eq;have b6:∀y∈ys,π y:=λy Z=>hw y (b1.1.mem_iff.1 Z);rw[<-c2];refine Km ?_;intros;refine Δ.υ (Y:=Υ aI 3 G1 none 0 []::Υ aI 3 G1 a2 c1 ys::L) (A.c8 aI 3 G1) ?_;refine Δ.loop (α:=Nat×OA×Nat) (λg=>g.1<=ys.length) (λg=>[(4,ae g.2.1 (Ju (ys.take g.1)).length g.2.2),(13,ae a2 ys.length c1),(14,E ys.length),(15,E (g.1:Int))]) (λg=>Υ aI 3 G1 g.2.1 g.2.2 (Ju (ys.take g.1))::Υ aI 3 G1 a2 c1 ys::L) (λg=>ys.length - g.1) (0,none,0) B aA (A.refl _) ?_;rintro⟨k,a3,I⟩ hk;dsimp only at hk ⊢;by_cases b8:k<ys.length
 case neg =>
  rw[aG B];refine Km ?_;intros;exact KX.en ⟨a3,I,ys,rfl,b1,rfl⟩
 have b7:(k:Int).toNat=k:=B;have b0 : (k:Int).toNat<ys.length:=B;have K:=b6 _ (bA b0);have et:=og b8;rw[show ys[k]! = ys[(k:Int).toNat]! by rw[b7]] at et;have b9:=ug ys k B;have b4:=Co b6 k B;obtain⟨x,b5⟩:∃x,ys[(k:Int).toNat]! = x:=⟨_,rfl⟩;rw[b5] at K et;generalize Ju (ys.take k)=s at b9 b4 et ⊢;have c0:=K;unfold π at c0;refine Δ.c9 (show ∀θ Α w,Sat θ ((Υ aI 3 G1 a3 I s::Υ aI 3 G1 a2 c1 ys::L)++Α) w->(0<s.length->rR a3) from λθ Α w q h0=>nB (M:=a3) (cap:=I) (D:=s) (Β:=aI) (sz:=3) (Τ:=G1) h0 θ Α w q) ?_;intro a7;refine Km ?_;intros;rw[b5];simp only[aI];by_cases J:s.length=0
 .have e:KS s x=s++[x]:=by unfold KS;rw[Ω B]
  refine Km ?_;intros;refine R.ef (Ef.a8 (Β:=aI) (e:=x) rfl rfl rfl rfl rfl aS (fq _) B B) ac ?_;rintro _ _⟨a4,r,rfl,rfl⟩;refine Km ?_;intros;refine⟨(k+1,a4,r),by dsimp only;omega,by dsimp only;omega,?_,?_⟩
  .dsimp only;rw[et,e,bC k];exact aA
  .dsimp only;rw[et,e];exact ag
 have a6:=a7 B;have a9:((s.length:Int) - 1).toNat=s.length - 1:=B;have b3:=b4 _ (bA (B:s.length - 1<s.length));rw[<-a9] at b3;unfold π at b3;by_cases hc:s[((s.length:Int) - 1).toNat]!.1=x.1/\x.2.1<=s[((s.length:Int) - 1).toNat]!.2.1+s[((s.length:Int) - 1).toNat]!.2.2
 .have e:KS s x=s.set ((s.length:Int) - 1).toNat (s[((s.length:Int) - 1).toNat]!.1,s[((s.length:Int) - 1).toNat]!.2.1,max s[((s.length:Int) - 1).toNat]!.2.2 (x.2.1+x.2.2 - s[((s.length:Int) - 1).toNat]!.2.1)):=by
   unfold KS;rw[a9] at hc ⊢;rw[μ ⟨J,hc⟩]
  obtain⟨c3,c4⟩:=hc;refine Km ?_;intros;refine Ο.H6 (O.c7 rfl a6) ac ?_;refine Km ?_;intros;refine Ο.H6 (O.c7 rfl a6) ac ?_;refine Km ?_;intros;refine Ο.H6 (O.c7 rfl a6) ac ?_;refine Km ?_;intros;refine Ο.I1 (Ef.d9 (e:=((s[((s.length:Int) - 1).toNat]!.1,s[((s.length:Int) - 1).toNat]!.2.1,max s[((s.length:Int) - 1).toNat]!.2.2 (x.2.1+x.2.2 - s[((s.length:Int) - 1).toNat]!.2.1)):gq)) rfl rfl aS rfl B ac) ?_;rintro _ _ rfl;refine Km ?_;intros;refine⟨(k+1,a3,I),by dsimp only;omega,B,?_,?_⟩
  .dsimp only;rw[et,e,bq,bC k];exact aA
  .dsimp only;rw[et,e];exact ag
 have e:KS s x=s++[x]:=by
  unfold KS;rw[a9] at hc;rw[Ω B]
 by_cases hf:s[((s.length:Int) - 1).toNat]!.1=x.1
 .have ha:¬x.2.1<=s[((s.length:Int) - 1).toNat]!.2.1+s[((s.length:Int) - 1).toNat]!.2.2:=B;refine Km ?_;intros;refine R.ef (Ef.a8 (Β:=aI) (e:=x) rfl rfl rfl rfl rfl aS (fq _) B B) ac ?_;rintro _ _⟨a4,r,rfl,rfl⟩;refine Km ?_;intros;refine⟨(k+1,a4,r),by dsimp only;omega,by dsimp only;omega,?_,?_⟩
  .dsimp only;rw[et,e,bC k];exact aA
  .dsimp only;rw[et,e];exact ag
 .refine Km ?_;intros;refine R.ef (Ef.a8 (Β:=aI) (e:=x) rfl rfl rfl rfl rfl aS (fq _) B B) ac ?_;rintro _ _⟨a4,r,rfl,rfl⟩;refine Km ?_;intros;refine⟨(k+1,a4,r),by dsimp only;omega,by dsimp only;omega,?_,?_⟩
  .dsimp only;rw[et,e,bC k];exact aA
  .dsimp only;rw[et,e];exact ag
end
section
open Go.V
theorem uT{x:gq}{set:LL}(h:Nx set){p q:Nat}(a2:p<=q)(hq:q<set.length)(hp:Jg x set[p]!):Jg x set[q]!:=by
 rcases Nat.lt_or_ge p q with r|I
 .have J:=(List.pairwise_iff_getElem.1 h.sl) p q B hq r;have U:=h.ok _ (bA hq);grind [Jg,sl,π]
 grind
def FG(q:gq×Bool):LV:=[bh (aI q.1),.bool q.2]
attribute [local irreducible] Δ R GP Ο h2 O Ef A8 A CB GB V.Enters
abbrev AX:=Uz [.ev 17,.ev 18,.ev 19,.ev 20,.ev 21,.ev 22,.ev 23,.ev 24,.ev 25,.ev 26,.ev 27,.ev 28,.ev 29,.ev 30,.ev 31,.ev 32,.ev 33,.ev 34]
def KC{φ ψ:Prop}(k:ψ)(h:Hid ψ->φ:=by intro k;(repeat (first|refine aa ?_|intro sh|refine Δ.dr 39 1 AX ?_));(repeat revert sh);exact Hid.out k):φ:=h ⟨k⟩
theorem Bw{L:LH}(bs bx:Nat)(B8:OA)(sc:Nat)(set:LL)[hr:C7 L B8 gq aI 3 set](x:gq)(K:H8 x)(hw:∀y∈set,π y)(a2:set.length<=1000000)(k:Nat)(hk:k<set.length) :
  Λ Ε 172 #[E (k:Int),al bs,al bx] (obj bs fB [ae B8 set.length sc]::obj bx G1 (aI x)::L) (C9 (.bool (dB (Jg x set[k]!))) (obj bs fB [ae B8 set.length sc]::obj bx G1 (aI x)::L)):=by
 have I:(k:Int).toNat=k:=B;have r:=hw _ (bA hk);unfold π at r;unfold H8 at K;rw[show set[k]! = set[(k:Int).toNat]! by rw[I]] at r ⊢;simp only[aI];refine Λ.bd ?_;by_cases c1:x.1<set[(k:Int).toNat]!.1
 .rw[bI (show Jg x set[(k:Int).toNat]! from .inl c1)];refine KC ?_;intros;exact KX.en ⟨rfl,rfl⟩
 by_cases c2:set[(k:Int).toNat]!.1=x.1
 .by_cases c3:x.2.1<set[(k:Int).toNat]!.2.1+set[(k:Int).toNat]!.2.2
  .rw[bI (show Jg x set[(k:Int).toNat]! from .inr ⟨c2,c3⟩)];refine KC ?_;intros;exact KX.a8 aw ag ⟨by rw[bI c3];rfl,rfl⟩
  .rw[bj (by grind [Jg])];refine KC ?_;intros;exact KX.a8 aw ag ⟨by rw[bj c3];rfl,rfl⟩
 .rw[bj (by grind [Jg])];refine KC ?_;intros;exact KX.en ⟨rfl,rfl⟩
theorem xz{L:LH}(bs bx:Nat)(B8:OA)(sc:Nat)(set:LL)[hr:C7 L B8 gq aI 3 set](x:gq)(K:H8 x)(hs:Nx set)(a2:set.length<=1000000) :
  Λ Ε 151 #[E (set.length:Int),.func (.func 172) #[] #[al bs,al bx]] (obj bs fB [ae B8 set.length sc]::obj bx G1 (aI x)::L) (λv Y=>∃i:Nat,v=E (i:Int)/\(i<=set.length/\(∀p,p<i->¬Jg x set[p]!)/\(i<set.length->Jg x set[i]!))/\Y = obj bs fB [ae B8 set.length sc]::obj bx G1 (aI x)::L):=by
 refine Λ.bd ?_;refine Ih ?_;intros;refine Δ.loop (α:=Nat×Nat) (λg=>(g.1<=g.2/\g.2<=set.length)/\(∀p,p<g.1->¬Jg x set[p]!)/\∀p,g.2<=p->p<set.length->Jg x set[p]!) (λg=>[(1,.func (.func 172) #[] #[al bs,al bx]),(5,E (g.1:Int)),(6,E (g.2:Int))]) (λ_=>obj bs fB [ae B8 set.length sc]::obj bx G1 (aI x)::L) (λg=>g.2 - g.1) (0,set.length) ay aA (A.refl _) ?_;rintro⟨i,j⟩ ⟨⟨J,U⟩,h3,h4⟩;dsimp only at J U h3 h4 ⊢;by_cases a3:i<j
 case neg =>
  have r:i=j:=B;subst r;refine Ih ?_;intros;exact KX.a8 aw (A.refl _) ⟨i,rfl,⟨U,h3,λq=>ay⟩,rfl⟩
 refine Ih ?_;intros;refine R.ev (O.shr rfl rfl ac) ac ?_
 have e2:((i:Int)+(j:Int)).fdiv (2 ^ min ((1:Int).toNat) IntKind.u64.bits)=(((i+j) / 2:Nat):Int):=by
  rw[dh _ ac];simp[IntKind.bits]
 rw[e2];obtain⟨h,hh⟩:∃h,(i+j) / 2=h:=⟨_,rfl⟩;rw[hh];refine Ih ?_;intros;refine R.ef (Ef.d7 rfl rfl (Bw bs bx B8 sc set x K hs.ok a2 h B)) ac ?_;rintro _ _⟨rfl,rfl⟩;by_cases hc:Jg x set[h]!
 .rw[bI hc];refine Ih ?_;intros;exact⟨(i,h),⟨⟨B,B⟩,h3,λp hp I=>uT hs hp I hc⟩,B,aA,A.refl _⟩
 .rw[bj hc];refine Ih ?_;intros;refine⟨(h+1,j),⟨⟨B,B⟩,λp hp q=>?_,h4⟩,B,?_,A.refl _⟩
  .grind [uT]
  .rw[show(((h+1,j):Nat×Nat).1:Int)=(h:Int)+1 by simp];exact aA
end
section
open Go.V
attribute [local irreducible] Δ R GP Ο h2 O Ef A8 A CB GB V.Enters
abbrev AW:=Uz [.ev 17,.ev 18,.ev 19,.ev 20,.ev 21,.ev 22,.ev 23,.ev 24,.ev 25,.ev 26,.ev 27,.ev 28,.ev 29,.ev 30,.ev 31]
abbrev AV:=Ux []
abbrev AU:=Uz [.ev 17]
def bH{φ ψ:Prop}(k:ψ)(h:Hid ψ->φ:=by intro k;(with_reducible apply Δ.a8);first|refine Δ.dr 131 4 AW (Hid.out k)|refine Δ.dr 131 6 AV (Hid.out k)|refine Δ.dr 131 9 AU (Hid.out k)):φ:=h ⟨k⟩
def KG{φ ψ:Prop}(k:ψ)(h:Hid ψ->φ:=by intro k;(repeat (first|refine aa ?_|intro sh|refine bH ?_));(repeat revert sh);exact Hid.out k):φ:=h ⟨k⟩
def vv(bl bs:Nat)(M:OA)(c:Nat)(l:LL)(B8:OA)(sc:Nat)(set:LL)(e9:l.length<=1000000)(e7:set.length<=1000000)(hw:∀x∈l,π x)(hs:Nx set) :
  Cn Ε 171 [al bl,al bs] ((l.flatMap (J1 set)).map FG) [obj bl fB [ae M l.length c],obj bs fB [ae B8 set.length sc],ε aI 3 M l,ε aI 3 B8 set] []:=by
 intro i Jj Jx Z;rw[ah]
 have a7 : ∀F0 q Α,l.flatMap (J1 set)=F0++q::Α->Nt Ε i (FG q) [Jj F0.length] (λv Y=>(v=.bool true/\Y = [Jj (F0.length+1)])\/(v=.bool false/\Y = [Jx F0.length])):=by
  intro F0 q Α e;have hk:F0.length<(l.flatMap (J1 set)).length:=by rw[e,aq,aO];omega
  have h:=Z F0.length (by rw[ah];exact hk);rw[eM] at h;have e2:(l.flatMap (J1 set))[F0.length]=q:=(List.getElem_of_eq e hk).trans bR;rw[e2] at h;exact h
 clear Z;have hV:∀k,k<=l.length->l.flatMap (J1 set)=(l.take k).flatMap (J1 set)++(l.drop k).flatMap (J1 set):=λk _=>by rw[<-cZ,cz]
 obtain⟨V,c6⟩:∃V,l.flatMap (J1 set)=V:=⟨_,rfl⟩;rw[c6] at a7 hV ⊢;refine Λ.bd (args:=[.func (.yield i) #[] #[],al bl,al bs]) ?_;refine KG ?_;intros;refine Δ.loop (α:=Nat) (λk=>k<=l.length) (λk=>[(0,.func (.yield i) #[] #[]),(1,al bl),(2,al bs),(9,ae M l.length c),(10,E l.length),(11,E (k:Int))]) (λk=>[Jj ((l.take k).flatMap (J1 set)).length,obj bl fB [ae M l.length c],obj bs fB [ae B8 set.length sc],ε aI 3 M l,ε aI 3 B8 set]) (λk=>l.length - k) 0 (aC _) aA (A.refl _) ?_;intro k hk;by_cases d3:k<l.length
 case neg =>
  have e5:k=l.length:=B;have e:(l.take k).flatMap (J1 set)=V:=by rw[e5,cn,c6]
  rw[e];refine KG ?_;intros;exact KX.c8 aw (A.c7 (A.nil _)) (.inl rfl)
 have e4:(k:Int).toNat=k:=aZ k;have b4 : (k:Int).toNat<l.length:=B;obtain⟨x0,a6⟩:∃x0,l[(k:Int).toNat]! = x0:=⟨_,rfl⟩;have b8:π x0:=by rw[<-a6];exact hw _ (bA b4)
 have a4:l[k]! = x0:=by rw[<-a6,e4]
 have hd:l.drop k=x0::l.drop (k+1):=by rw[jh d3,a4]
 have a9:V=(l.take k).flatMap (J1 set)++(J1 set x0++(l.drop (k+1)).flatMap (J1 set)):=by
  have:=hV k hk
  rw[hd,aR] at this;exact this
 have c0:=hV (k+1) d3;obtain⟨Α,hR⟩:∃Α,(l.drop (k+1)).flatMap (J1 set)=Α:=⟨_,rfl⟩;rw[hR] at a9 c0
 have a3:∀F0,V=F0++Α->F0.length=((l.take (k+1)).flatMap (J1 set)).length:=λF0 e=>by
  have:=List.append_cancel_right (c0.symm.trans e)
  rw[this]
 refine KG ?_;intros;rw[a6];refine KG ?_;intros;rename_i bx;refine R.υ (Y:=obj bs fB [ae B8 set.length sc]::obj bx G1 (aI x0)::[Jj ((l.take k).flatMap (J1 set)).length,obj bl fB [ae M l.length c],ε aI 3 M l,ε aI 3 B8 set]) (by simp only[aI];exact ag) ?_;refine R.ca (xz bs bx B8 sc set x0 b8.w hs e7) ?_;rintro _ _⟨i0,rfl,⟨b3,d0,d1⟩,rfl⟩;have b7:set.drop i0=L9 x0 set:=uF x0 b3 d0 d1;have b2:=nk x0 hs.sl hs.ok;rw[<-b7] at b2;have b0:V=(l.take k).flatMap (J1 set)++(LY (set.drop i0) x0++Α):=by rw[b7];exact a9
 generalize (l.take k).flatMap (J1 set)=D0 at b0;clear b7 d0 d1 a9;refine KG ?_;intros;refine Δ.loop (α:=gq×Nat×List (gq×Bool)) (λg=>H8 g.1/\g.2.1<=set.length/\(∀y∈set.drop g.2.1,Jg g.1 y)/\V=g.2.2++(LY (set.drop g.2.1) g.1++Α)) (λg=>[(0,.func (.yield i) #[] #[]),(1,al bl),(2,al bs),(5,al bx),(6,E (g.2.1:Int)),(9,ae M l.length c),(10,E l.length),(11,E (k:Int))]) (λg=>[Jj g.2.2.length,obj bl fB [ae M l.length c],obj bs fB [ae B8 set.length sc],obj bx G1 (aI g.1),ε aI 3 M l,ε aI 3 B8 set]) (λg=>set.length - g.2.1) (x0,i0,D0) ⟨b8.w,b3,b2,b0⟩ aA (by simp only[aI];exact ag) ?_;clear b0 b2 b3 b8 a6 a4 hd;rintro⟨x,j,F0⟩ ⟨d6,hj,hh,r⟩;dsimp only at d6 hj hh r ⊢;have b9:=d6;unfold H8 at b9;have e3:(j:Int).toNat=j:=aZ j;have d2:set[j]! = set[(j:Int).toNat]!:=by rw[e3]
 have e0:j<set.length->π set[(j:Int).toNat]!:=λh=>by rw[<-d2];exact hs.ok _ (bA h)
 have b1:j<set.length->set.drop j=set[(j:Int).toNat]!::set.drop (j+1):=λh=>by rw[jh h,d2]
 simp only[aI];repeat first|refine Δ.sn 4 ?_|refine cR ?_|intro _|refine bH ?_
 refine Δ.c7 (α:=Unit) (λ_=>True) (λ_=>[(0,.func (.yield i) #[] #[]),(1,al bl),(2,al bs),(5,al bx),(6,E (j:Int)),(9,ae M l.length c),(10,E l.length),(11,E (k:Int)),(50,.bool (dB (0<x.2.2/\j<set.length/\set[(j:Int).toNat]!.1=x.1/\set[(j:Int).toNat]!.2.1<x.2.1+x.2.2)))]) (λ_=>[Jj F0.length,obj bl fB [ae M l.length c],obj bs fB [ae B8 set.length sc],obj bx G1 [E x.1,E x.2.1,E x.2.2],ε aI 3 M l,ε aI 3 B8 set]) ?_ ?_
 .by_cases c1:0<x.2.2
  case neg =>
   rw[bj (λq=>c1 q.1)];refine KG ?_;intros;exact⟨(),trivial,aA,A.refl _⟩
  by_cases c2:j<set.length
  case neg =>
   rw[bj (λq=>c2 q.2.1)];refine KG ?_;intros;exact⟨(),trivial,aA,A.refl _⟩
  have I:=e0 c2;unfold π at I;by_cases c3:set[(j:Int).toNat]!.1=x.1
  case neg =>
   rw[bj (λq=>c3 q.2.2.1)];refine KG ?_;intros;exact⟨(),trivial,aA,A.refl _⟩
  rw[show dB (0<x.2.2/\j<set.length/\set[(j:Int).toNat]!.1=x.1/\set[(j:Int).toNat]!.2.1<x.2.1+x.2.2)=dB (set[(j:Int).toNat]!.2.1<x.2.1+x.2.2) from by rw[dd,dd];exact decide_eq_decide.2 ⟨λq=>q.2.2.2,λq=>⟨c1,c2,c3,q⟩⟩];refine KG ?_;intros;exact⟨(),trivial,aA,A.refl _⟩
 rintro _ _;by_cases C:0<x.2.2/\j<set.length/\set[(j:Int).toNat]!.1=x.1/\set[(j:Int).toNat]!.2.1<x.2.1+x.2.2
 case neg =>
  rw[bj C];by_cases c1:0<x.2.2
  .have e6:LY (set.drop j) x=[(x,false)]:=by
    by_cases c2:j<set.length
    .rw[b1 c2];exact qp c1 (λq=>C ⟨c1,c2,q.1,q.2⟩)
    .rw[bN B];exact μ c1
   rw[e6] at r;have a5:=a7 F0 (x,false) Α r;have he:=a3 (F0++[(x,false)]) (by rw[r];simp);rw[aq,bu] at he;refine KG ?_;intros;refine R.υ (A.at (Μ:=Jj F0.length) (A.refl _)) ?_;((with_reducible apply R.a8);refine R.OG (A8.yield (a5) rfl rfl eY) ac ?_);rintro _ _⟨_,(⟨rfl,rfl⟩|⟨rfl,rfl⟩),hL⟩
   .simp only[aj,ak] at hL;subst hL;refine KG ?_;intros;refine⟨k+1,B,B,?_,?_⟩
    .rw[show(((k+1:Nat)):Int)=(k:Int)+1 by omega];exact aA
    .rw[<-he];exact ag
   .simp only[aj,ak] at hL;subst hL;refine KG ?_;intros;exact KX.a8 aw (A.c7 (A.nil _)) (.inr ⟨F0.length,rfl⟩)
  .have he:=a3 F0 (by rw[r,vx c1];rfl);refine KG ?_;intros;refine⟨k+1,B,B,?_,?_⟩
   .rw[show(((k+1:Nat)):Int)=(k:Int)+1 by omega];exact aA
   .rw[<-he];exact ag
 rw[bI C];obtain⟨c1,c2,c3,c4⟩:=C;have I:=e0 c2;have d4:=hh set[(j:Int).toNat]! (by rw[b1 c2];exact az);have b6:(set.drop j).Pairwise sl:=(hs.sl.sublist (List.drop_sublist j set));rw[b1 c2] at b6 r hh;rw[List.pairwise_cons] at b6
 have e1:∀w∈set.drop (j+1),Jg (M1 x set[(j:Int).toNat]!) w:=λw hw=>by
  have J:=b6.1 w hw;have U:=hs.ok w (dC hw);unfold sl at J;unfold π at U I;unfold Jg M1 LX Kt;dsimp only;omega
 rw[zv ⟨c1,c3,c4⟩] at r
 have e8:H8 (M1 x set[(j:Int).toNat]!):=by
  unfold π at I;unfold Jg at d4;unfold H8 M1 LX Kt;dsimp only;omega
 have ho:0<=Kt x set[(j:Int).toNat]!/\Kt x set[(j:Int).toNat]! < x.2.2/\0<LX x set[(j:Int).toNat]!/\LX x set[(j:Int).toNat]!<=x.2.2 - Kt x set[(j:Int).toNat]!:=by
  unfold π at I;unfold Jg at d4;unfold LX Kt;omega
 have eo:max 0 (set[(j:Int).toNat]!.2.1 - x.2.1)=Kt x set[(j:Int).toNat]!:=rfl;have ei:min (x.2.2 - Kt x set[(j:Int).toNat]!) (set[(j:Int).toNat]!.2.1+set[(j:Int).toNat]!.2.2 - (x.2.1+Kt x set[(j:Int).toNat]!))=LX x set[(j:Int).toNat]!:=rfl;have e2:M1 x set[(j:Int).toNat]! = (x.1,x.2.1+Kt x set[(j:Int).toNat]! + LX x set[(j:Int).toNat]!,x.2.2 - Kt x set[(j:Int).toNat]! - LX x set[(j:Int).toNat]!):=rfl;unfold π at I;repeat first|refine Δ.sn 6 ?_|refine cR ?_|intro _|refine bH ?_
 refine Δ.c7 (α:=Unit) (λ_=>True) (λ_=>[(0,.func (.yield i) #[] #[]),(1,al bl),(2,al bs),(5,al bx),(6,E (j:Int)),(7,E (Kt x set[(j:Int).toNat]!)),(9,ae M l.length c),(10,E l.length),(11,E (k:Int))]) (λ_=>[Jj F0.length,obj bl fB [ae M l.length c],obj bs fB [ae B8 set.length sc],obj bx G1 [E x.1,E x.2.1,E x.2.2],ε aI 3 M l,ε aI 3 B8 set]) ?_ ?_
 .rw[<-eo];refine KG ?_;intros;exact⟨(),trivial,aA,A.refl _⟩
 rintro _ _;obtain⟨o,b5⟩:∃o,Kt x set[(j:Int).toNat]! = o:=⟨_,rfl⟩;obtain⟨q,d5⟩:∃q,LX x set[(j:Int).toNat]! = q:=⟨_,rfl⟩;rw[b5,d5] at ho e2 ei;rw[b5,d5] at r;rw[b5];clear eo;obtain⟨f0,f1,f2,f3⟩:=ho;obtain⟨D1,a2⟩:∃D1,D1=F0++(if 0<o then[(((x.1,x.2.1,o):gq),false)] else[]):=⟨_,rfl⟩;repeat first|refine Δ.sm 7 ?_|refine cR ?_|intro _|refine bH ?_
 refine Δ.c7 (α:=Unit) (λ_=>True) (λ_=>[(0,.func (.yield i) #[] #[]),(1,al bl),(2,al bs),(5,al bx),(6,E (j:Int)),(7,E o),(9,ae M l.length c),(10,E l.length),(11,E (k:Int))]) (λ_=>[Jj D1.length,obj bl fB [ae M l.length c],obj bs fB [ae B8 set.length sc],obj bx G1 [E x.1,E x.2.1,E x.2.2],ε aI 3 M l,ε aI 3 B8 set]) ?_ ?_
 .by_cases h0:0<o
  .rw[μ h0] at a2 r;have a5:=a7 F0 ((x.1,x.2.1,o),false) _ r;refine KG ?_;intros;refine R.υ (A.at (Μ:=Jj F0.length) (A.refl _)) ?_;((with_reducible apply R.a8);refine R.OG (A8.yield (a5) rfl rfl eY) ac ?_);rintro _ _⟨_,(⟨rfl,rfl⟩|⟨rfl,rfl⟩),hL⟩
   .simp only[aj,ak] at hL;subst hL;refine KG ?_;intros;refine⟨(),trivial,aA,?_⟩;rw[a2,aq,bu];exact A.refl _
   .simp only[aj,ak] at hL;subst hL;refine KG ?_;intros;exact KX.a8 aw (A.c7 (A.nil _)) (.inr ⟨F0.length,rfl⟩)
  .rw[Ω h0,aJ] at a2;refine KG ?_;intros;refine⟨(),trivial,aA,?_⟩;rw[a2];exact A.refl _
 rintro _ _
 have c5:V=D1++(((x.1,x.2.1+o,q),true)::(LY (set.drop (j+1)) (M1 x set[(j:Int).toNat]!)++Α)):=by
  rw[r,a2];simp only[ax,aj]
 have a5:=a7 D1 ((x.1,x.2.1+o,q),true) _ c5;repeat first|refine Δ.sn 9 ?_|refine cR ?_|intro _|refine bH ?_
 refine Δ.c7 (α:=Unit) (λ_=>True) (λ_=>[(0,.func (.yield i) #[] #[]),(1,al bl),(2,al bs),(5,al bx),(6,E (j:Int)),(8,E q),(9,ae M l.length c),(10,E l.length),(11,E (k:Int))]) (λ_=>[Jj D1.length,obj bl fB [ae M l.length c],obj bs fB [ae B8 set.length sc],obj bx G1 [E x.1,E (x.2.1+o),E (x.2.2 - o)],ε aI 3 M l,ε aI 3 B8 set]) ?_ ?_
 .rw[<-ei];refine KG ?_;intros;exact⟨(),trivial,aA,by exact ag⟩
 rintro _ _;refine KG ?_;intros;refine R.υ (A.at (Μ:=Jj D1.length) (A.refl _)) ?_;((with_reducible apply R.a8);refine R.OG (A8.yield (a5) rfl rfl eY) ac ?_);rintro _ _⟨_,(⟨rfl,rfl⟩|⟨rfl,rfl⟩),hL⟩
 .simp only[aj,ak] at hL;subst hL;refine KG ?_;intros;refine⟨(M1 x set[(j:Int).toNat]!,j+1,D1++[((x.1,x.2.1+o,q),true)]),⟨e8,by dsimp only;omega,e1,by dsimp only;rw[c5];simp⟩,by dsimp only;omega,?_,?_⟩
  .dsimp only;rw[show(((j+1:Nat)):Int)=(j:Int)+1 by omega];exact aA
  .dsimp only;rw[aq,bu,e2];simp only[aI];exact ag
 .simp only[aj,ak] at hL;subst hL;refine KG ?_;intros;exact KX.a8 aw (A.c7 (A.nil _)) (.inr ⟨D1.length,rfl⟩)
