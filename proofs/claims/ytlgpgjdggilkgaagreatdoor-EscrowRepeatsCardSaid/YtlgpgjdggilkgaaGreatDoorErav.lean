/- Lemmas. -/
import Derived.Test.YtlgpgjdggilkgaaGreatDoorErau
set_option linter.all false
set_option maxHeartbeats 4000000
namespace Go.Proofs.YtlgpgjdggilkgaaGreatDoor
section
open Go.V
def O4(l set:LL):LL:=(KK (l.flatMap (J1 set))).foldl bz []
def Rh(l set:LL):LL:=(im (l.flatMap (J1 set))).foldl bz []
def CQ(l:List (gq×Bool))(q:gq×Bool):KK (l++[q])=KK l++(if q.2=true then[q.1] else[]):=by
 rw[EM];obtain⟨x,b⟩:=q;cases b<;>rfl
def Bx(l:List (gq×Bool))(q:gq×Bool):im (l++[q])=im l++(if q.2=true then[] else[q.1]):=by
 rw[CP];obtain⟨x,b⟩:=q;cases b<;>rfl
def Gm{l set:LL}(hs:Nx set)(hw:∀x∈l,π x):(∀q∈l.flatMap (J1 set),π q.1)/\(l.flatMap (J1 set)).length<=l.length*(2*set.length+1):=by
 induction l with
 | nil=>exact⟨(λq h=>by cases h),by simp⟩
 | cons x l ih =>
  obtain⟨i1,i2⟩:=ih (λy Z=>hw y (aB _ Z));obtain⟨p1,p2⟩:=CO hs (hw x az);rw[aR];refine⟨λq hq=>?_,?_⟩
  .rcases It hq with h|h
   .exact p1 q h
   .exact i1 q h
  .rw[aq,aO,gA];omega
def Gn(l:List (gq×Bool)):(KK l).length<=l.length/\(im l).length<=l.length:=by
 unfold KK im;rw[ah,ah];exact⟨dN _ _,dN _ _⟩
def EL{l:List (gq×Bool)}(h:∀q∈l,π q.1):(∀x∈KK l,H8 x)/\∀x∈im l,H8 x:=by
 constructor
 .intro x K;obtain⟨q,hq,rfl⟩:=IY K;exact(h q (List.mem_filter.1 hq).1).w
 .intro x K;obtain⟨q,hq,rfl⟩:=IY K;exact(h q (List.mem_filter.1 hq).1).w
attribute [local irreducible] Δ R GP Ο h2 O Ef A8 A CB GB V.Enters
abbrev AT:List Im:=[.ev 0,.ev 1,.ef 2,.ef 3]
def fJ{φ ψ:Prop}(k:ψ)(h:Hid ψ->φ:=by intro k;first|refine R.ci (f:=119) (Hid.out k)|refine Ο.ci (f:=119) (Hid.out k)|refine R.cf (f:=119) rfl (Hid.out k)|refine Ο.cf (f:=119) rfl (Hid.out k)|refine KX.Nc (Hid.out k)):φ:=h ⟨k⟩
def fI{φ ψ:Prop}(k:ψ)(h:Hid ψ->φ:=by intro k;(with_reducible apply Δ.a8);first|refine Δ.dr 22 7 AT (Hid.out k)):φ:=h ⟨k⟩
def Us{φ ψ:Prop}(k:ψ)(h:Hid ψ->φ:=by intro k;(repeat (first|refine aa ?_|intro sh|refine fI ?_|refine fJ ?_));(repeat revert sh);exact Hid.out k):φ:=h ⟨k⟩
def DO(M:OA)(c:Nat)(l:LL)(B8:OA)(sc:Nat)(set:LL)(a5:l.length<=4500)(b0:set.length<=4500)(hw:∀x∈l,π x)(hs:Nx set) :
  Λ Ε 303 #[ae M l.length c,ae B8 set.length sc] [ε aI 3 M l,ε aI 3 B8 set] (λv Y=>∃r c1 I c2,v=.tuple #[ae r (O4 l set).length c1,ae I (Rh l set).length c2]/\Y = [Υ aI 3 G1 r c1 (O4 l set),Υ aI 3 G1 I c2 (Rh l set)]):=by
 obtain⟨hq,a9⟩:=Gm hs hw;have a3:l.length*(2*set.length+1)<=4500*9001:=Nat.mul_le_mul a5 B;unfold O4 Rh;have a4:=λbl bs=>vv bl bs M c l B8 sc set B B hw hs;generalize l.flatMap (J1 set)=V at *;refine Λ.bd ?_;refine Us ?_;intros;rename_i b4 b5 bx bf;refine Δ.d8 (a4 bx bf) rfl TA.1 ac ?_ (λk=>[N9 b4 ((KK (V.take k)).foldl bz []),N9 b5 ((im (V.take k)).foldl bz [])]) ?_ ?_ ?_
 .intro vs a7;obtain⟨q,_,rfl⟩:=IY a7;rfl
 .simp only[aj,ak,aU];rw[show(KK []).foldl bz []=[] from rfl,show(im []).foldl bz []=[] from rfl];refine A.trans ?_ (A.f9 (none,0) (f:=Jt b4 []) (A.refl _));refine A.trans ?_ (A.append (A.refl (Jt b4 [] (none,0))) (A.f9 (none,0) (f:=Jt b5 []) (A.refl _)));simp only[Jt,aX,aj,ak];refine A.trans (A.c8 aI 3 G1) (A.trans (A.c8 aI 3 G1) ?_);exact ag
 .intro k hk;rw[ah] at hk;rw[eM];have a6:V.take (k+1)=V.take k++[V[k]]:=av hk;have a2:=hq _ (cG hk);obtain⟨l1,l2⟩:=Gn (V.take k);obtain⟨w1,w2⟩:=EL (l:=V.take k) (λq h=>hq q (cl h));have b1:(V.take k).length<=41000000:=by rw[aK];omega
  have g1:=gZ (KK (V.take k)) [];have g2:=gZ (im (V.take k)) [];have g3:=jv (l:=[]) (D:=KK (V.take k)) (λ_ h=>by cases h) w1;have g4:=jv (l:=[]) (D:=im (V.take k)) (λ_ h=>by cases h) w2;rw[aX] at g1 g2;rw[a6,CQ,Bx,List.foldl_append,List.foldl_append];generalize (KK (V.take k)).foldl bz []=bU at *;generalize (im (V.take k)).foldl bz []=Α at *;generalize V[k]=q at a2 ⊢;obtain⟨x,b⟩:=q;dsimp only at a2 ⊢;cases b with
  | true =>
   show Δ _ _ _ ((12,.bool true)::(11,bh (aI x))::_) _ _;rw[μ rfl,μ rfl];refine Δ.c8 (f:=Jt b4 bU) ?_;rintro⟨r,c1⟩;simp only[Jt,aj,ak,List.foldl_cons,List.foldl_nil];refine Us ?_;intros;refine R.υ (A.at (Μ:=Υ aI 3 G1 r c1 bU) (A.refl _)) ?_;refine R.ca (sW r c1 bU x B g3 a2.w) ?_;rintro _ _⟨I,c2,rfl,rfl⟩;refine Us ?_;intros;refine KX.round ?_;refine A.trans ?_ (A.f9 (I,c2) (f:=Jt b4 (bz bU x)) (A.refl _));simp only[Jt,aj,ak];exact ag
  | false =>
   show Δ _ _ _ ((12,.bool false)::(11,bh (aI x))::_) _ _;rw[Ω ac,Ω ac];refine Δ.υ A.swap ?_;refine Δ.c8 (f:=Jt b5 Α) ?_;rintro⟨r,c1⟩;simp only[Jt,aj,ak,List.foldl_cons,List.foldl_nil];refine Us ?_;intros;refine R.υ (A.at (Μ:=Υ aI 3 G1 r c1 Α) (A.refl _)) ?_;refine R.ca (sW r c1 Α x B g4 a2.w) ?_;rintro _ _⟨I,c2,rfl,rfl⟩;refine Us ?_;intros;refine KX.round ?_;refine A.trans ?_ (A.swap (Μ:=N9 b5 (bz Α x)));refine A.trans ?_ (A.f9 (I,c2) (f:=Jt b5 (bz Α x)) (A.refl _));simp only[Jt,aj,ak];exact ag
 .rw[ah,cn];generalize (KK V).foldl bz []=bU;generalize (im V).foldl bz []=Α;simp only[aJ];refine KX.c7 (KX.f8 ?_);refine Δ.c8 (f:=Jt b4 bU) ?_;rintro⟨r,c1⟩;refine Δ.υ (Y:=N9 b5 Α::Jt b4 bU (r,c1)) (A.perm (by simp only[Jt,aj,ak];exact(List.Perm.cons _ (List.Perm.swap _ _ _)).trans (List.Perm.swap _ _ _))) ?_;refine Δ.c8 (f:=Jt b5 Α) ?_;rintro⟨I,c2⟩;simp only[Jt,aj,ak];refine Us ?_;intros;refine KX.a8 (vs:=[ae r bU.length c1,ae I Α.length c2]) (B6.a8 rfl (B6.a8 rfl B6.nil)) ?_ ⟨r,c1,I,c2,rfl,rfl⟩;exact ag
end
section
open Go.V
attribute [local irreducible] Δ R GP Ο h2 O Ef A8 A CB GB V.Enters
def dw{φ ψ:Prop}(k:ψ)(h:Hid ψ->φ:=by intro k;first|refine R.ci (f:=116) (Hid.out k)|refine Ο.ci (f:=116) (Hid.out k)|refine R.cf (f:=116) rfl (Hid.out k)|refine Ο.cf (f:=116) rfl (Hid.out k)|refine KX.Nc (Hid.out k)):φ:=h ⟨k⟩
def Ut{φ ψ:Prop}(k:ψ)(h:Hid ψ->φ:=by intro k;(repeat (first|refine aa ?_|intro sh|refine dw ?_));(repeat revert sh);exact Hid.out k):φ:=h ⟨k⟩
def vM{L:LH}(M:OA)(n c:Nat)(D:LL)[C7 L M gq aI 3 D](hn:n=D.length)(hm:n<=9223372036854775807) :
  Λ Ε 54 #[ae M n c] L (C9 (.bool (dB (gH D))) L):=by
 subst hn;refine Λ.bd ?_;by_cases hb:D.length<=4096
 case neg =>
  rw[bj (λq:gH D=>hb q.2)];refine Ut ?_;intros;exact KX.en ⟨rfl,rfl⟩
 refine Ut ?_;intros;refine Δ.loop (α:=Nat) (λi=>i<=D.length/\∀k,k<i->π D[k]!) (λi=>[(0,ae M D.length c),(8,ae M D.length c),(9,E D.length),(10,E (i:Int))]) (λ_=>L) (λi=>D.length - i) 0 ⟨aC _,λk hk=>iW hk (Nat.not_lt_zero k)⟩ aA (A.refl _) ?_;rintro i ⟨hi,a4⟩;by_cases a6:i<D.length
 case neg =>
  have I:∀x∈D,π x:=λx K=>by
   obtain⟨k,hk,e⟩:=List.mem_iff_getElem.1 K;have U:=a4 k B;rw[C5 hk,e] at U;exact U
  rw[bI (show gH D from⟨I,hb⟩)];refine Ut ?_;intros;exact KX.en ⟨rfl,rfl⟩
 have a5:(i:Int).toNat=i:=aZ i;have a2:=bA a6
 have a3:π D[i]!->∀k,k<i+1->π D[k]!:=λh k hk=>by
  by_cases e:k=i
  .rw[e];exact h
  .exact a4 k B
 have r:¬π D[i]!->¬gH D:=λh q=>h (q.1 _ a2);rw[show D[i]! = D[(i:Int).toNat]! by rw[a5]] at a3 r;by_cases o1:0<=D[(i:Int).toNat]!.1
 case neg =>
  rw[bj (r (λq=>o1 q.1))];refine Ut ?_;intros;exact KX.en ⟨rfl,rfl⟩
 by_cases o2:0<=D[(i:Int).toNat]!.2.1
 case neg =>
  rw[bj (r (λq=>o2 q.2.1))];refine Ut ?_;intros;exact KX.en ⟨rfl,rfl⟩
 by_cases o3:D[(i:Int).toNat]!.2.1<=1099511627776
 case neg =>
  rw[bj (r (λq=>o3 q.2.2.1))];refine Ut ?_;intros;exact KX.en ⟨rfl,rfl⟩
 by_cases o4:1<=D[(i:Int).toNat]!.2.2
 case neg =>
  rw[bj (r (λq=>o4 q.2.2.2.1))];refine Ut ?_;intros;exact KX.en ⟨rfl,rfl⟩
 by_cases o5:D[(i:Int).toNat]!.2.2<=1099511627776 - D[(i:Int).toNat]!.2.1
 case neg =>
  rw[bj (r (λq=>o5 q.2.2.2.2))];refine Ut ?_;intros;rw[bj o5];refine Ut ?_;intros;exact KX.en ⟨rfl,rfl⟩
 refine Ut ?_;intros;rw[bI o5];refine Ut ?_;intros;refine⟨i+1,⟨B,a3 ⟨o1,o2,o3,o4,o5⟩⟩,B,?_,by exact ag⟩;rw[bC i];exact aA
end
section
open Go.V
attribute [local irreducible] Δ R GP Ο h2 GF GE O Ef A8 A CB GB V.Enters
def jw(k:Nat)(fp tp:Int->Bool)(st:Bool)(m:A9):Prop :=
 (0<=m.aT/\m.aT<k)/\(1<=m.n/\m.n<=1099511627776)/\K7 m.Ψ/\K7 m.to/\m.Ψ≠m.to/\fp m.Ψ=true/\tp m.to=true/\(if st=true then jm m.Ζ m.n else m.Ζ.length=0)
noncomputable instance (a b c Ξ e):Decidable (jw a b c Ξ e):=Classical.propDecidable _
abbrev xY:=Uz [.ev 17,.ev 18,.ev 19,.ev 20,.ev 21,.ev 22,.ev 23,.ev 24,.ev 25,.ev 26,.ef 27,.ev 28,.ev 29,.ev 30,.ev 31,.ev 32,.ef 33,.ev 34,.ev 35,.ev 36,.ev 37,.ev 38,.ev 39,.ev 40,.ev 41,.ev 42,.ev 43,.ev 44,.ev 45,.ev 46,.ev 47,.ef 48,.ev 49,.ev 50,.ev 51,.ev 52,.ev 53,.ev 54,.ev 55,.ef 56,.ev 57,.ev 58]
abbrev xX:List Im:=[.ev 0,.ev 1,.ef 2,.ev 3,.ev 4,.ev 5,.ev 7,.ev 8,.ef 6,.ev 9,.ev 10,.ev 11,.ev 12,.ev 13,.ev 16,.ev 17,.ef 14,.ef 15,.ev 18,.ev 19,.ev 20]
def Le{φ ψ:Prop}(k:ψ)(h:Hid ψ->φ:=by intro k;(repeat (first|refine aa ?_|intro sh|refine Δ.dr 93 1 xY ?_|refine Δ.dr 93 5 xX ?_));(repeat revert sh);exact Hid.out k):φ:=h ⟨k⟩
def BW{L Α:LH}{b:Nat}{d:Int}{x:Jl}[hp:KP L b MR (bV d x) Α](ff tf wf:FuncId)(fp tp:Int->Bool)(st:Bool)(hf:Po ff fp)(ht:Po tf tp)(m:G0)[hr:C7 L m.pad gq aI 3 m.m.Ζ](hm:m.m.Ζ.length<=9223372036854775807)(hl:x.ζ.B5.length<=64) :
  Λ Ε 190 #[al b,bh (bJ m),.agg #[.func (.func ff) #[] #[],.func (.func tf) #[] #[],.bool st,.func (.func wf) #[] #[]]] L (C9 (.bool (dB (jw x.ζ.B5.length fp tp st m.m))) L):=by
 obtain⟨⟨Ψ,to,aT,n,Ζ⟩,pad,F6⟩:=m;dsimp only at hr hm;have r:∀{p:Prop},¬p->(jw x.ζ.B5.length fp tp st ⟨Ψ,to,aT,n,Ζ⟩->p)->dB (jw x.ζ.B5.length fp tp st ⟨Ψ,to,aT,n,Ζ⟩)=false:=λh q=>bj (λΘ=>h (q Θ));refine Λ.bd (args:=[al b,bh (bJ ⟨⟨Ψ,to,aT,n,Ζ⟩,pad,F6⟩),.agg #[.func (.func ff) #[] #[],.func (.func tf) #[] #[],.bool st,.func (.func wf) #[] #[]]]) ?_;by_cases J:0<=aT
 case neg =>
  refine Le ?_;intros;exact KX.a8 aw ag ⟨by rw[r J (λh=>h.1.1)];rfl,rfl⟩
 by_cases U:aT<x.ζ.B5.length
 case neg =>
  refine Le ?_;intros;exact KX.a8 aw ag ⟨by rw[r U (λh=>h.1.2)];rfl,rfl⟩
 by_cases h3:1<=n
 case neg =>
  refine Le ?_;intros;exact KX.a8 aw ag ⟨by rw[r h3 (λh=>h.2.1.1)];rfl,rfl⟩
 by_cases h4:n<=1099511627776
 case neg =>
  refine Le ?_;intros;exact KX.a8 aw ag ⟨by rw[r h4 (λh=>h.2.1.2)];rfl,rfl⟩
 refine Le ?_;intros;refine Ο.cr (nH Ψ) ?_;by_cases h5:K7 Ψ
 case neg =>
  rw[bj h5];refine Le ?_;intros;exact KX.a8 aw ag ⟨by rw[r h5 (λh=>h.2.2.1)];rfl,rfl⟩
 rw[bI h5];refine Le ?_;intros;refine Ο.cr (nH to) ?_;by_cases h6:K7 to
 case neg =>
  rw[bj h6];refine Le ?_;intros;exact KX.a8 aw ag ⟨by rw[r h6 (λh=>h.2.2.2.1)];rfl,rfl⟩
 rw[bI h6];by_cases h7:Ψ=to
 case pos =>
  refine Le ?_;intros;exact KX.a8 aw ag ⟨by rw[r (λq:Ψ≠to=>q h7) (λh=>h.2.2.2.2.1)];rfl,rfl⟩
 refine Le ?_;intros;refine Ο.ef (Ef.d7 rfl rfl (hf Ψ _)) ac ?_;rintro _ _⟨rfl,rfl⟩;cases h8:fp Ψ with
 | false =>
  refine Le ?_;intros;exact KX.a8 aw ag ⟨by rw[r (show ¬fp Ψ=true by rw[h8];decide) (λh=>h.2.2.2.2.2.1)];rfl,rfl⟩
 | true =>
 refine Le ?_;intros;refine Ο.ef (Ef.d7 rfl rfl (ht to _)) ac ?_;rintro _ _⟨rfl,rfl⟩;cases h9:tp to with
 | false =>
  refine Le ?_;intros;exact KX.a8 aw ag ⟨by rw[r (show ¬tp to=true by rw[h9];decide) (λh=>h.2.2.2.2.2.2.1)];rfl,rfl⟩
 | true =>
 cases st with
 | false =>
  have e:jw x.ζ.B5.length fp tp false ⟨Ψ,to,aT,n,Ζ⟩↔Ζ.length=0:=⟨λh=>h.2.2.2.2.2.2.2,λh=>⟨⟨J,U⟩,⟨h3,h4⟩,h5,h6,h7,h8,h9,h⟩⟩;refine Le ?_;intros;refine KX.a8 aw ag ⟨?_,rfl⟩;by_cases I:Ζ.length=0
  .rw[bI (B:((Ζ.length:Nat):Int)=0),bI (e.2 I)];rfl
  .rw[bj (B:¬((Ζ.length:Nat):Int)=0),bj (λh=>I (e.1 h))];rfl
 | true =>
 have e:jw x.ζ.B5.length fp tp true ⟨Ψ,to,aT,n,Ζ⟩↔jm Ζ n:=⟨λh=>h.2.2.2.2.2.2.2,λh=>⟨⟨J,U⟩,⟨h3,h4⟩,h5,h6,h7,h8,h9,h⟩⟩;refine Le ?_;intros;refine Ο.cr (vM pad Ζ.length F6 Ζ rfl hm) ?_;by_cases c1:gH Ζ
 case neg =>
  rw[bj c1];refine Le ?_;intros;exact KX.a8 aw ag ⟨by rw[bj (λh=>c1 (e.1 h).1)];rfl,rfl⟩
 rw[bI c1];refine Le ?_;intros;refine Ο.cr (ku pad Ζ.length F6 Ζ rfl c1.2 c1.1) ?_;by_cases c2:dU Ζ=n
 case neg =>
  refine Le ?_;intros;exact KX.a8 aw ag ⟨by rw[bj (λh=>c2 (e.1 h).2.2)];rfl,rfl⟩
 refine Le ?_;intros;refine Ο.ca (ot pad Ζ.length F6 Ζ rfl (by have:=c1.2;omega) c1.1) ?_;rintro _ _⟨a3,zc,ys,rfl,a2,rfl⟩;obtain⟨s1,s2,s3,_⟩:=uh a2 c1.1;refine Le ?_;intros;refine Ο.cr (kn a3 (Ju ys).length zc (Ju ys) rfl (by have:=c1.2;omega) s1.ok) ?_;refine Le ?_;intros;refine KX.a8 aw ag ⟨?_,rfl⟩
 have e2:jw x.ζ.B5.length fp tp true ⟨Ψ,to,aT,n,Ζ⟩↔dU (Ju ys)=n:=by
  rw[e];constructor
  .rintro⟨_,q,_⟩;rw[s3.2 q,c2]
  .intro q;exact⟨c1,s3.1 (q.trans c2.symm),c2⟩
 rw[HD e2];rfl
end
end Go.Proofs.YtlgpgjdggilkgaaGreatDoor
namespace Go.V
section
variable {P:Program}{N:Nat}{env:Env}{L:LH}{Ν:E1}
def A.under{Μ:LH}{p:HP}(h:A L (p::L)):A (Μ++L) (p::(Μ++L)) :=
 (A.append (A.refl Μ) h).trans (A.perm dq)
