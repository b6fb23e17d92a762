/- Lemmas. -/
import Derived.Test.YtlgpgjdggilkgaaGreatDoorErbj
set_option linter.all false
set_option maxHeartbeats 8000000
namespace Go.Proofs.YtlgpgjdggilkgaaGreatDoor
section
open Go.V
def jU(a:Int):Prop:=1<=a/\a<=1073741824
noncomputable instance (a:Int):Decidable (jU a):=Classical.propDecidable _
attribute [local irreducible] Δ R GP Ο h2 GF GE O Ef A8 A CB GB V.Enters bF
def wU{L:LH}(M:OA)(n c:Nat)(D:List (Int×Int))[C7 L M (Int×Int) dH 2 D](hn:n=D.length)(hb:n<=1000000) :
  Λ Ε 168 #[ae M n c] L (λv Y=>∃I r,v=ae I D.length r/\Y = Υ dH 2 67 I r D::L):=by
 refine Λ.bd ?_;repeat' first|refine aa ?_|intro _|with_reducible refine CB.dec (λ_=>?_) (λ_=>?_)|with_reducible refine GB.dec (λ_=>?_) (λ_=>?_)|with_reducible refine CB.bool (λ_=>?_) (λ_=>?_)|with_reducible refine GB.bool (λ_=>?_) (λ_=>?_)
 .have h:M=none:=by assumption
  subst h;refine KX.f9 (.inl rfl) (mT (L:=L) (D:=D)) ?_;intro K;subst K;refine KX.a8 aw (A.c8 dH 2 67) ⟨_,_,rfl,rfl⟩
 .refine R.υ (A.d9 (Β:=dH) (sz:=2) (D:=[]) rfl rfl bR bR) ?_;refine R.ef (Ef.c9 rfl rfl rfl rfl hn (λe _=>kO e) gg gg) ac ?_;rintro _ _⟨I,r,rfl,rfl⟩;refine Ih ?_;intros;refine KX.a8 aw (A.refl _) ⟨I,r,rfl,rfl⟩
def oM{L:LH}(a:Int):Λ Ε 167 #[E a] L (C9 (.bool (dB (jU a))) L):=by
 refine Λ.bd ?_;by_cases h0:1<=a
 .by_cases J:a<=1073741824
  .rw[bI (show jU a from⟨h0,J⟩)];refine Ih ?_;intros;refine KX.a8 aw (A.refl _) ⟨?_,rfl⟩;exact congrArg Value.bool (bI J)
  .rw[bj (show ¬jU a from λq=>J q.2)];refine Ih ?_;intros;refine KX.a8 aw (A.refl _) ⟨?_,rfl⟩;exact congrArg Value.bool (bj J)
 .rw[bj (show ¬jU a from λq=>h0 q.1)];refine Ih ?_;intros;exact KX.en ⟨rfl,rfl⟩
def wS{L:LH}(l:IL)(hl:l.m.am.length<=1000):Λ Ε 111 #[bh (aW l)] (gy l::L) (λv Y=>∃l' : IL,v=bh (aW l')/\l'.m=l.m/\Y = gy l'::gy l::L):=by
 refine Λ.bd ?_;refine Ih ?_;intros;refine R.ca (wU l.M l.m.am.length l.cap l.m.am rfl B) ?_;rintro _ _⟨I,r,rfl,rfl⟩;refine Ih ?_;intros;refine KX.a8 (by exact B6.cell rfl aS (B6.nil)) ?_ ⟨⟨l.m,I,r⟩,rfl,rfl,rfl⟩;refine(A.at (Μ:=Υ dH 2 Lz I r l.m.am) A.JC).trans ?_;exact ag
def Sj:IL:=⟨⟨0,0,0,0,[]⟩,none,0⟩
def wI{L:LH}(M:OA)(c:Nat)(ls:List IL)[hrd:C7 (Ρ gy ls::L) M IL aW 5 ls](hl:ls.length<=1000)(hp:∀l∈ls,l.m.am.length<=1000) :
  Λ Ε 110 #[ae M ls.length c,.func (.func 111) #[] #[]] (Ρ gy ls::L) (λv Y=>∃a3 c' I,v=ae a3 I.length c'/\I.map (·.m)=ls.map (·.m)/\Y = Υ aW 5 KT a3 c' I::Ρ gy I::Ρ gy ls::L):=by
 refine Λ.bd ?_;by_cases h0:ls.length=0
 .have e:ls=[]:=bG h0;subst e;refine Ih ?_;intros;exact KX.a8 aw ((A.a8 gy).trans (A.c8 aW 5 KT)) ⟨none,0,[],rfl,rfl,rfl⟩
 refine Ih ?_;intros;refine R.ef (Ef.g8 aW Sj rfl rfl rfl B B B B) ac ?_;rintro _ _⟨bs,rfl,rfl⟩;rw[show(ls.length:Int).toNat=ls.length by omega];refine Ih ?_;intros
 refine Δ.loop (α:=Nat×List IL) (λz=>z.1<=ls.length/\z.2.length=ls.length/\(z.2.take z.1).map (·.m)=(ls.take z.1).map (·.m)) (λz=>[(1,.func (.func 111) #[] #[]),(5,ae (some ⟨bs,0,none⟩) ls.length ls.length),(14,ae M ls.length c),(15,E (ls.length:Int)),(16,E (z.1:Int))])
  (λz=>Υ aW 5 KT (some ⟨bs,0,none⟩) ls.length z.2::Ρ gy (z.2.take z.1)::Ρ gy ls::L) (λz=>ls.length - z.1) (0,List.replicate ls.length Sj) ⟨aC _,by simp,by simp⟩ aA ?_ ?_
 .dsimp only;rw[aU];refine(A.a8 gy).trans ?_;exact ag
 rintro⟨i,zs⟩ ⟨hi,a6,r⟩;dsimp only at hi a6 r ⊢;by_cases a2:i<ls.length
 case neg =>
  have a7:i=ls.length:=B;subst a7;rw[aG B,aG B] at r;rw[aG (B:zs.length<=ls.length)];refine Ih ?_;intros;refine KX.a8 aw (A.refl _) ⟨some ⟨bs,0,none⟩,ls.length,zs,by rw[a6];rfl,r,rfl⟩
 have a4:(i:Int).toNat=i:=B;have a5:ls[i]!∈ls:=bA a2;have b0:=hp _ a5;refine Ih ?_;intros;rename_i b7;rw[a4];refine R.υ (Y:=gy ls[i]!::(Υ aW 5 KT (some ⟨bs,0,none⟩) ls.length zs::Ρ gy (zs.take i)::Ρ gy ls::L)) ((A.at (Μ:=Ρ gy ls) (A.d8 (f:=gy) a5)).trans ag) ?_;refine R.ef (Ef.c7 (first:=[]) (cap:=[]) (vs:=[bh (aW ls[i]!)]) (wS ls[i]! b0) rfl rfl) ac ?_;rintro _ _⟨m',rfl,a9,rfl⟩;refine Ih ?_;intros;refine R.I1 (Ef.g9 (e:=m') rfl rfl aS aS (jZ _) B) ?_;rintro _ _ rfl;rw[a4];refine Ih ?_;intros;refine⟨(i+1,zs.set i m'),⟨by dsimp only;omega,by dsimp only;simp;omega,?_⟩,by dsimp only;omega,?_,?_⟩
 .dsimp only;rw[eh B,av a2,aL,aL,r,<-C5 a2];simp[a9]
 .dsimp only;rw[bC i];exact aA
 .dsimp only;rw[eh B];refine(A.at (Μ:=gy m') (A.d7 (f:=gy) eD)).trans ?_;refine(A.at (Μ:=Ρ gy [m']) (A.refl _)).trans ?_;refine(A.at (Μ:=Ρ gy (zs.take i)) (A.refl _)).trans ?_;refine(A.c9 (f:=gy) eD).trans ?_;exact ag
end
section
open Go.V
def Nz(n:Int)(a:Int×Int):Prop:=0<=a.1/\a.1<n/\1<=a.2/\a.2<=1099511627776
def Mo(n:Int):Int->List (Int×Int)->Prop
 | _,[]=>True
 | p,a::l=>Nz n a/\p<a.1/\Mo n a.1 l
noncomputable instance (n:Int) (a:Int×Int):Decidable (Nz n a):=Classical.propDecidable _
noncomputable instance (n p:Int) (l:List (Int×Int)):Decidable (Mo n p l):=Classical.propDecidable _
def pG(l:List (Int×Int))(i:Nat):Int:=if i=0 then -1 else l[i - 1]!.1
structure P8 (Q n:Int) (l:G7):Prop where
 d:0<=l.d/\l.d<Q
 ts:0<=l.ts/\l.ts<Q
 fr:jU l.fr
 to:jU l.to
 ne:¬l.am.length=0
 Rn:Mo n (-1) l.am
def jc(Q n:Int)(ls:List G7):Prop:=(1<=ls.length/\ls.length<=32)/\∀l∈ls,P8 Q n l
noncomputable instance (Q n:Int) (ls:List G7):Decidable (jc Q n ls):=Classical.propDecidable _
attribute [local irreducible] Δ R GP Ο h2 GF GE O Ef A8 A CB GB V.Enters bF
def xE{L:LH}(n:Int)(a:Int×Int):Λ Ε 129 #[E n,bh (dH a)] L (C9 (.bool (dB (Nz n a))) L):=by
 by_cases J:0<=a.1
 .by_cases U:a.1<n
  .by_cases h3:1<=a.2
   .have e:dB (Nz n a)=dB (a.2<=1099511627776):=by
     by_cases h4:a.2<=1099511627776
     .rw[bI h4,bI ⟨J,U,h3,h4⟩]
     .rw[bj h4,bj λq=>h4 q.2.2.2]
    rw[e];refine Λ.bd ?_;refine Ih ?_;intros;exact KX.en ⟨rfl,rfl⟩
   .rw[bj (show ¬Nz n a from λq=>h3 q.2.2.1)];refine Λ.bd ?_;refine Ih ?_;intros;exact KX.en ⟨rfl,rfl⟩
  .rw[bj (show ¬Nz n a from λq=>U q.2.1)];refine Λ.bd ?_;refine Ih ?_;intros;exact KX.en ⟨rfl,rfl⟩
 .rw[bj (show ¬Nz n a from λq=>J q.1)];refine Λ.bd ?_;refine Ih ?_;intros;exact KX.en ⟨rfl,rfl⟩
theorem tV{L:LH}(n:Int)(hn:0<=n/\n<=64)(M:OA)(m c:Nat)(l:List (Int×Int))[hrd:C7 L M (Int×Int) dH 2 l](hm:m=l.length)(hl:l.length<=1000) :
  Λ Ε 69 #[E n,ae M m c] L (C9 (.bool (dB (Mo n (-1) l))) L):=by
 subst hm;have e1:¬n<0:=B;have e2:¬n>64:=B;refine Λ.bd ?_;refine Ih ?_;intros;refine Δ.loop (α:=Nat) (λi=>i<=l.length/\(Mo n (-1) l↔Mo n (pG l i) (l.drop i))) (λi=>[(0,E n),(5,E (pG l i)),(14,ae M l.length c),(15,E (l.length:Int)),(16,E (i:Int))]) (λi=>L) (λi=>l.length - i) 0 ⟨aC _,by rw[List.drop_zero];rfl⟩ aA (A.refl _) ?_;rintro i ⟨hi,ha⟩;by_cases r:i<l.length
 case neg =>
  have hT:Mo n (-1) l:=by
   rw[ha,bN B];trivial
  rw[bI hT];refine Ih ?_;intros;exact KX.en ⟨rfl,rfl⟩
 have a2:(i:Int).toNat=i:=B
 have I:Mo n (pG l i) (l.drop i)↔(Nz n l[i]!/\pG l i<l[i]!.1/\Mo n l[i]!.1 (l.drop (i+1))):=by
  rw[bS r,<-C5 r];rfl
 have a3:pG l (i+1)=l[i]!.1:=rfl;rw[I] at ha;generalize pG l i=p at *;refine Ih ?_;intros;rename_i b7;rw[a2];refine R.υ (Y:=obj b7 67 (dH l[i]!)::L) ag ?_;refine R.cr (xE n l[i]!) ?_;by_cases J:Nz n l[i]!
 case neg =>
  have hF:¬Mo n (-1) l:=ay;rw[bj hF,bj J];refine Ih ?_;intros;exact KX.en ⟨rfl,rfl⟩
 rw[bI J];by_cases U:p<l[i]!.1
 case neg =>
  have hF:¬Mo n (-1) l:=ay;have h3:l[i]!.1<=p:=B;rw[bj hF];simp only[dH];refine Ih ?_;intros;exact KX.en ⟨rfl,rfl⟩
 have h3:¬l[i]!.1<=p:=B;simp only[dH];refine Ih ?_;intros;refine⟨i+1,⟨B,?_⟩,B,?_,by exact ag⟩
 .grind
 .rw[bC i,a3];exact aA
def Cj{L:LH}(b:Nat)(S:Χ) :
  Λ Ε 166 #[al b] (aN b S::L) (λv Y=>∃c' : Iq,v=.agg c'.cells.toArray/\(c'.m=S.ζ/\c'.cq)/\Y = aN b S::L):=by
 refine Λ.bd ?_;refine Δ.c8 (f:=gT b S) ?_;intro x;simp only[gT,B1,bV,aj,ak];refine Δ.d7 ?_;intro hF;refine Ih ?_;intros;refine R.υ (A.at (Μ:=JU x.ζ) (A.refl _)) ?_;refine R.ca (od x.ζ hF.Ob) ?_;rintro _ _⟨c',rfl,r,rfl⟩;simp only[Iq.cells];refine Ih ?_;intros;refine KX.a8 (by exact B6.cell rfl aS (B6.nil)) ?_ ⟨c',rfl,⟨r.trans hF.ζ,Iq.a8 r hF.Ob⟩,rfl⟩;refine A.drop.trans (A.drop.trans ?_);refine A.trans ?_ (gj x hF);simp only[B1,bV];exact ag
def tO{L:LH}(nb lb:Nat)(d Q ω hl:Int)(mb mp mr:Nat)(S:Χ)(hc:S.ζ.B5.length<=64)(M:OA)(m c:Nat)(ls:List IL)(hm:m=ls.length)(b2:ls.length<=1000)(a7:∀l∈ls,l.m.am.length<=1000) :
  Λ Ε 109 #[al nb,ae M m c] (obj nb B2 (cw lb d Q ω hl mb mp mr)::aN lb S::ε aW 5 M ls::Ρ gy ls::L) (C9 (.bool (dB (jc Q S.ζ.B5.length (ls.map (·.m))))) (obj nb B2 (cw lb d Q ω hl mb mp mr)::aN lb S::ε aW 5 M ls::Ρ gy ls::L)):=by
 subst hm;have b4:(ls.map (·.m)).length=ls.length:=ah _;generalize hN:(S.ζ.B5.length:Int)=N;have a6:0<=N/\N<=64:=B;have a3:=λ (k:Int) (ξ:LH)=>lL (L:=ξ) nb lb d Q ω hl mb mp mr k;simp only[cw] at a3;refine Λ.bd ?_;simp only[cw];by_cases J:ls.length<1
 .rw[bj (show ¬jc Q N (ls.map (·.m)) from λq=>by have:=q.1.1;omega)];refine Ih ?_;intros;exact KX.en ⟨rfl,rfl⟩
 by_cases U:ls.length>32
 .rw[bj (show ¬jc Q N (ls.map (·.m)) from λq=>by have:=q.1.2;omega)];refine Ih ?_;intros;exact KX.en ⟨rfl,rfl⟩
 refine Ih ?_;intros;refine R.υ (Y:=aN lb S::(obj nb B2 [al lb,E d,E Q,E ω,E hl,.map (some mb),.map (some mp),.map (some mr)]::ε aW 5 M ls::Ρ gy ls::L)) ag ?_;refine R.ca (Cj lb S) ?_;rintro _ _⟨cv,rfl,⟨a9,b3⟩,rfl⟩;have b1:(cv.B5.length:Int)=N:=by rw[<-hN,<-a9];rfl
 simp only[Iq.cells];refine R.ev (O.A0 (off:=0) (fs:=Tryz.prog.fieldsOf 116) (fd:=(Tryz.prog.fieldsOf 116)[0]!) Γ Γ Γ (λ_=>Γ) rfl rfl) ac ?_;refine Ih ?_;intros;rw[b1];refine Δ.loop (α:=Nat) (λi=>i<=ls.length/\∀l∈ls.take i,P8 Q N l.m) (λi=>[(0,al nb),(5,E N),(23,ae M ls.length c),(24,E (ls.length:Int)),(25,E (i:Int))]) (λi=>obj nb B2 [al lb,E d,E Q,E ω,E hl,.map (some mb),.map (some mp),.map (some mr)]::aN lb S::ε aW 5 M ls::Ρ gy ls::L) (λi=>ls.length - i) 0 ⟨aC _,λl h=>iW h (by rw[aU];exact aD)⟩ aA ag ?_;rintro i ⟨hi,ha⟩;by_cases a4:i<ls.length
 case neg =>
  rw[aG B] at ha
  have hT:jc Q N (ls.map (·.m)):=⟨B,λl hl=>by
   obtain⟨x,K,rfl⟩:=IY hl;exact ha x K⟩
  rw[bI hT];refine Ih ?_;intros;exact KX.en ⟨rfl,rfl⟩
 have b0:(i:Int).toNat=i:=B;have I:ls[i]!∈ls:=bA a4;have r:¬P8 Q N ls[i]!.m->¬jc Q N (ls.map (·.m)):=λh q=>h (q.2 _ (Kg I));have a2:=a7 _ I;generalize hle:ls[i]! = l at *;refine Ih ?_;intros;rename_i b7;rw[b0,hle];refine R.ef (Ef.k6 (a3 l.m.d _) rfl) ac ?_;rintro _ _⟨rfl,rfl⟩;by_cases h3:0<=l.m.d/\l.m.d<Q
 case neg =>
  rw[bj h3,bj (r λq=>h3 q.d)];refine Ih ?_;intros;exact KX.en ⟨rfl,rfl⟩
 rw[bI h3];refine Ih ?_;intros;refine R.ef (Ef.k6 (a3 l.m.ts _) rfl) ac ?_;rintro _ _⟨rfl,rfl⟩;by_cases h4:0<=l.m.ts/\l.m.ts<Q
 case neg =>
  rw[bj h4,bj (r λq=>h4 q.ts)];refine Ih ?_;intros;exact KX.en ⟨rfl,rfl⟩
 rw[bI h4];refine Ih ?_;intros;refine R.cr (oM l.m.fr) ?_;by_cases h5:jU l.m.fr
 case neg =>
  rw[bj h5,bj (r λq=>h5 q.fr)];refine Ih ?_;intros;exact KX.en ⟨rfl,rfl⟩
 rw[bI h5];refine Ih ?_;intros;refine R.cr (oM l.m.to) ?_;by_cases h6:jU l.m.to
 case neg =>
  rw[bj h6,bj (r λq=>h6 q.to)];refine Ih ?_;intros;exact KX.en ⟨rfl,rfl⟩
 rw[bI h6];by_cases h7:l.m.am.length=0
 .have a5 : (l.m.am.length:Int)=0:=B;rw[bj (r λq=>q.ne h7)];refine Ih ?_;intros;exact KX.en ⟨rfl,rfl⟩
 have a5 : ¬(l.m.am.length:Int)=0:=B;refine Ih ?_;intros;refine R.υ (A.at (Μ:=Ρ gy ls) (A.d8 (f:=gy) I)) ?_;refine R.cr (tV N a6 l.M l.m.am.length l.cap l.m.am rfl a2) ?_;by_cases h8:Mo N (-1) l.m.am
 case neg =>
  rw[bj h8,bj (r λq=>h8 q.Rn)];refine Ih ?_;intros;exact KX.en ⟨rfl,rfl⟩
 rw[bI h8];refine Ih ?_;intros;refine⟨i+1,⟨B,λx K=>?_⟩,B,?_,by exact ag⟩
 .rw[av a4] at K;rcases It K with K|K
  .exact ha x K
  .rw[D6 K,<-C5 a4,hle];exact⟨h3,h4,h5,h6,h7,h8⟩
 .rw[bC i];exact aA
end
section
open Go.V
def dc(ls:List G7)(k:Nat):List Int:=((List.range k).map λ (i:Nat)=>(i:Int)).filter λs=>decide (∃l∈ls,l.d=s)
theorem wn(ls:List G7)(k:Nat):dc ls (k+1)=dc ls k++(if ∃l∈ls,l.d=(k:Int) then[(k:Int)] else[]):=by
 unfold dc;rw[List.range_succ,aL,List.filter_append];congr 1;by_cases h:∃l∈ls,l.d=(k:Int)
 .grind
 grind
theorem kB(ls:List G7)(k:Nat):(dc ls k).length<=k:=by
 grind [dc]
theorem yP{ls:List G7}{k:Nat}{g:Int}:g∈dc ls k↔(0<=g/\g<k)/\∃l∈ls,l.d=g:=by
 unfold dc;rw[List.mem_filter,List.mem_map];refine⟨ay,λ⟨h,q⟩=>⟨⟨g.toNat,List.mem_range.2 B,B⟩,by simpa using q⟩⟩
theorem ob(ls:List G7)(k:Nat):(dc ls k).Nodup:=by
 grind [dc,List.nodup_range]
theorem wZ{n:Int}:∀{p:Int} {l:List (Int×Int)},Mo n p l->p<n->(l.length:Int)<=n - p - 1
 | _,[],_,h=>ay
 | p,a::l,h,hp=>by
  obtain⟨J,U,h3⟩:=h;have:=wZ h3 J.2.1
  grind
theorem wY{n:Int}:∀{p:Int} {l:List (Int×Int)},Mo n p l->∀a∈l,Nz n a
 | _,[],_,_,h=>ay
 | _,b::l,h,a,ha=>by
  rcases Jr ha with rfl|ha
  .exact h.1
  .exact wY h.2.2 a ha
def P8.ok{Q n:Int}{l:G7}(h:P8 Q n l)(hs:Q<=12)(hn:0<=n/\n<=64):kC l:=by
 obtain⟨J,U⟩:=h.fr;obtain⟨h3,h4⟩:=h.to;have h5:=h.d;have h6:=h.ts;have h7:=wZ h.Rn B;refine⟨⟨?_,?_,?_,?_⟩,B,λa ha=>?_⟩;iterate 4 (unfold id;omega)
 obtain⟨q1,q2,q3,q4⟩:=wY h.Rn a ha;unfold id;omega
noncomputable def fg(d Q:Int)(ls:List G7)(G Ev:Int)(N:eu)(S:Χ):(Int×Int)×Ja :=
 if Ev>1099511627776\/¬jc Q S.ζ.B5.length ls then((0,1),[],N,S)
 else if Ev<G then((0,14),[],N,S)
 else((d*4294967296+N.ω,0),Ix d G (cJ d (dc ls Q.toNat) [] ⟨1,d*4294967296+N.ω,0,false,ls,[]⟩) { N with ω:=N.ω+1,δ:=fc N.δ (d*4294967296+N.ω) ⟨ls,dc ls Q.toNat,Ev,[],[],false,false⟩ } S)
theorem zH{Q n F:Int}{ls:List G7}(h:jc Q n ls)(hs:Q<=12)(hn:0<=n/\n<=64)(r:id F):Kp ⟨1,F,0,false,ls,[]⟩ :=
 ⟨by grind [id],h.1.2,λl hl=>(h.2 l hl).ok hs hn,aC _,ay⟩
theorem pg{d:Int}{ct:IF}:∀{gs:List Int},gs.Nodup->fD d (gs.map λg=>(⟨d,g,ct⟩:xs))<=2*Kh ct.Η
 | [],_=>aC _
 | g::gs,h=>by
  obtain⟨J,U⟩:=List.nodup_cons.1 h;have ih:=pg (d:=d) (ct:=ct) U;grind [fD,cost,ji]
theorem lf(d:Int)(gs:List Int)(ct:IF):cJ d gs [] ct=gs.map λg=>(⟨d,g,ct⟩:xs):=by
 grind [cJ,List.filter_eq_self]
theorem tD{d Q n F:Int}{ls:List G7}(h:jc Q n ls)(hs:Q<=12)(hn:0<=n/\n<=64)(r:id F){gs:List Int}:∀y∈cJ d gs [] ⟨1,F,0,false,ls,[]⟩,Mc d 7 y:=λy Z=>by
 rw[lf] at Z;obtain⟨g,_,rfl⟩:=IY Z;exact⟨zH h hs hn r,by decide,ay⟩
theorem wX{ζ:D4}{d Q:Int}{N:eu}{S:Χ}{F u:Int}{ls:List G7}(h:IU ζ d N S)(hs:Q<=12):IU ζ d { N with ω:=N.ω+1,δ:=fc N.δ F ⟨ls,dc ls Q.toNat,u,[],[],false,false⟩ } S :=
 ⟨h.Ik,h.hl,h.nd,λp hp=>by
  rcases iV hp with rfl|hp
  .grind [kB]
  .exact h.No p hp,h.pts⟩
theorem jK{α:Type}{f:α->Nat}{C:Nat}:∀{l:List α},(∀x∈l,f x<=C)->(l.map f).sum<=l.length*C
 | [],_=>aC _
 | x::l,h=>by
  have J:=h x ay;have U:=jK (l:=l) λy Z=>h y (aB _ Z);rw[aF,bZ,aO,dl];omega
theorem DZ{ζ:D4}{d G:Int}{gs:List Int}{ct:IF}{N:eu}{S:Χ}(hg:gs.length<=100)(hP:∀y∈cJ d gs [] ct,Mc d 7 y)(hN:IU ζ d N S)(hb:gm S+E9 N+fD d (cJ d gs [] ct)<=2000):(Ix d G (cJ d gs [] ct) N S).1.length<=1000000:=by
 obtain⟨_,_,_,h4⟩:=lJ (G:=G) (Ξ:=7) _ _ _ 2000 B hP hN hb;have h5:=jK (f:=λm:xs=>Ld m.ct.Κ) (C:=3300) (l:=cJ d gs [] ct) λm _=>pi _;grind [Ix,cJ]
theorem HY{n:E0}{F:Int}(hn:(n.δ.map (·.1)).Nodup)(h:List.lookup F n.δ=none)(y:JR){L:LH}:A (J8 y (ew F7 n.δ::L)) (ew F7 (fc n.δ F y)::L):=by
 have e:GO n.δ F=n.δ:=nL ay;refine A.trans (cq:=F7 (F,y)::ew F7 (GO n.δ F)::L) ?_ (A.k7 hn y);rw[e];exact A.f8 (Μ:=[obj y.b KL (Jn y),τ cu bE y.mv (I3 y.G5),τ cu bE y.mt (I3 y.told),ε aW 5 y.ad y.Η,Ρ gy y.Η,ε (a0 .i64) 1 y.Jh y.B3])
attribute [local irreducible] Δ R GP Ο h2 GF GE O Ef A8 A CB GB V.Enters bF Ix
def BJ{L:LH}(l:IL)(bs:Nat)(s:Int):Λ Ε 113 #[bh (aW l),al bs] (obj bs kR [E s]::L) (C9 (.bool (dB (l.m.d=s))) (obj bs kR [E s]::L)):=by
 refine Λ.bd ?_;refine Ih ?_;intros;exact KX.en ⟨rfl,rfl⟩
theorem tS{L:LH}(bs:Nat)(s:Int)(M:OA)(n c:Nat)(ls:List IL)(hn:n=ls.length)(hl:ls.length<=1000) :
  Λ Ε 169 #[ae M n c,.func (.func 113) #[] #[al bs]] (obj bs kR [E s]::ε aW 5 M ls::L) (λv Y=>∃k:Int,v=E k/\(0<=k↔∃o∈ls,o.m.d=s)/\Y = obj bs kR [E s]::ε aW 5 M ls::L):=by
 subst hn;refine Λ.bd ?_;refine Ih ?_;intros;refine Δ.loop (α:=Nat) (λi=>i<=ls.length/\∀o∈ls.take i,¬o.m.d=s) (λi=>[(0,ae M ls.length c),(1,.func (.func 113) #[] #[al bs]),(7,E (ls.length:Int)),(8,E (i:Int))]) (λi=>obj bs kR [E s]::ε aW 5 M ls::L) (λi=>ls.length - i) 0 ay aA (A.refl _) ?_;rintro i ⟨hi,ha⟩;by_cases I:i<ls.length
 case neg =>
  rw[aG B] at ha;refine Ih ?_;intros;refine KX.a8 aw (A.refl _) ⟨-1,rfl,⟨B,ay⟩,rfl⟩
 have r:(i:Int).toNat=i:=B;have a2:ls[i]!∈ls:=bA I;refine Ih ?_;intros;rw[r];refine R.ef (Ef.c7 (first:=[]) (cap:=[al bs]) (vs:=[bh (aW ls[i]!)]) (BJ ls[i]! bs s) rfl rfl) ac ?_;rintro _ _⟨rfl,rfl⟩;by_cases hs:ls[i]!.m.d=s
 .rw[bI hs];refine Ih ?_;intros;refine KX.a8 aw (A.refl _) ⟨(i:Int),rfl,⟨ay,B⟩,rfl⟩
 .rw[bj hs];refine Ih ?_;intros;refine⟨i+1,⟨B,λo ho=>?_⟩,B,?_,A.refl _⟩
  .grind [av]
  .rw[bC i];exact aA
theorem qK{L:LH}(bs:Nat)(s:Int)(M:OA)(n c:Nat)(ls:List IL)(hn:n=ls.length)(hl:ls.length<=1000) :
  Λ Ε 112 #[ae M n c,.func (.func 113) #[] #[al bs]] (obj bs kR [E s]::ε aW 5 M ls::L) (λv Y=>v=.bool (dB (∃o∈ls.map (·.m),o.d=s))/\Y = obj bs kR [E s]::ε aW 5 M ls::L):=by
 refine Λ.bd ?_;refine Ih ?_;intros;refine R.ca (tS (L:=L) bs s M n c ls hn hl) ?_;rintro _ _⟨k,rfl,hk,rfl⟩;refine Ih ?_;intros;refine KX.a8 aw (A.refl _) ⟨?_,rfl⟩;refine congrArg Value.bool ?_;grind [dd]
end
section
open Go.V
attribute [local irreducible] Δ R GP Ο h2 GF GE O Ef A8 A CB GB V.Enters bF Ix
abbrev Bi:=Ux [.ev 10]
abbrev xZ:=Uv [.ef 6,.ef 7,.ev 8,.ev 9,.ef 10]
def Sv{φ ψ:Prop}(k:ψ)(h:Hid ψ->φ:=by intro k;(repeat (first|refine aa ?_|intro sh|refine Δ.dr 89 5 Bi ?_|refine Δ.dr 89 12 xZ ?_));(repeat revert sh);exact Hid.out k):φ:=h ⟨k⟩
def rM{L:LH}(nb lb:Nat)(d Q:Int)(b6:0<=d/\d<Q/\Q<=12)(n:E0)(S:Χ)(ζ:D4)(hN:IU ζ d n.m S)(hi:S.ζ.B5.length<=64)(c6:0<=n.ω/\n.ω<=1000000)(M:OA)(m c:Nat)(ls:List IL)(hm:m=ls.length)(I:ls.length<=1000)(c0:∀l∈ls,l.m.am.length<=1000)(G Ev:Int)(hk:gm S+E9 n.m+2*Kh (ls.map (·.m))<=2000)(b2:dV n.m.δ (d*4294967296+n.ω)=none) :
  Λ Ε 50 #[al nb,ae M m c,E G,E Ev] (ε aW 5 M ls::Ρ gy ls::a1 nb lb d Q n (aN lb S::L)) (λv Y=>∃b9 a3 T n',v=.tuple #[E (fg d Q (ls.map (·.m)) G Ev n.m S).1.1,ae b9 T.length a3,E (fg d Q (ls.map (·.m)) G Ev n.m S).1.2]/\T.map (·.m)=(fg d Q (ls.map (·.m)) G Ev n.m S).2.1/\n'.m=(fg d Q (ls.map (·.m)) G Ev n.m S).2.2.1/\Y = Υ aV 3 hy b9 a3 T::Ρ cV T::a1 nb lb d Q n' (aN lb (fg d Q (ls.map (·.m)) G Ev n.m S).2.2.2::L)):=by
 subst hm;have c2:0<=(S.ζ.B5.length:Int)/\(S.ζ.B5.length:Int)<=64:=B;have c1:n.m.ω=n.ω:=rfl;generalize hid:d*4294967296+n.ω=F at *;have a4:id F:=by unfold id;omega
 have d6:List.lookup F n.δ=none:=by
  rw[fo] at b2;cases h:List.lookup F n.δ with
  | none=>rfl
  | some x=>rw[h] at b2;cases b2
 generalize hR:fg d Q (ls.map (·.m)) G Ev n.m S=Α;unfold fg at hR;rw[c1,hid] at hR;have r:∀{ξ:LH},A ξ (Υ aV 3 hy none 0 []::Ρ cV []::ξ):=λ {ξ}=>(A.a8 cV).trans (A.c8 aV 3 hy);refine Λ.bd ?_;simp only[a1,cw];refine Δ.c9 (dR (b:=n.mb)) λhn=>?_;by_cases J:Ev>1099511627776
 .rw[μ (.inl J)] at hR;subst hR;refine Sv ?_;intros;refine KX.a8 aw ?_ ⟨none,0,[],n,rfl,rfl,rfl,rfl⟩;refine r.trans ?_;simp only[a1,cw];exact ag
 refine Sv ?_;intros;refine R.υ (Y:=obj nb B2 (cw lb d Q n.ω n.hl n.mb n.mp n.mr)::aN lb S::ε aW 5 M ls::Ρ gy ls::(τ cu cc n.mb n.δ::ew F7 n.δ::τ cu cg n.mp n.Ζ::ew F2 n.Ζ::τ B7 bE n.mr (G8 n.C1)::L)) (by simp only[cw];exact ag) ?_;refine R.cr (tO nb lb d Q n.ω n.hl n.mb n.mp n.mr S hi M ls.length c ls rfl I c0) ?_;simp only[cw];by_cases U:jc Q S.ζ.B5.length (ls.map (·.m))
 case neg =>
  rw[μ (.inr U)] at hR;subst hR;rw[bj U];refine Sv ?_;intros;refine KX.a8 aw ?_ ⟨none,0,[],n,rfl,rfl,rfl,rfl⟩;refine r.trans ?_;simp only[a1,cw];exact ag
 rw[Ω (λq=>q.elim J λq=>q U)] at hR;rw[bI U];by_cases h3:Ev<G
 .rw[μ h3] at hR;subst hR;refine Sv ?_;intros;refine KX.a8 aw ?_ ⟨none,0,[],n,rfl,rfl,rfl,rfl⟩;refine r.trans ?_;simp only[a1,cw];exact ag
 rw[Ω h3] at hR;have b5:=tD (d:=d) U b6.2.2 c2 a4 (gs:=dc (ls.map (·.m)) Q.toNat);have hin:=wX (Q:=Q) (F:=F) (u:=Ev) (ls:=ls.map (·.m)) hN b6.2.2
 have d0:fD d (cJ d (dc (ls.map (·.m)) Q.toNat) [] ⟨1,F,0,false,ls.map (·.m),[]⟩)<=2*Kh (ls.map (·.m)):=by
  rw[lf];exact pg (ob _ _)
 have e3:=kB (ls.map (·.m)) Q.toNat;have a6:=DZ (G:=G) B b5 hin (by unfold E9 at hk ⊢;dsimp only;omega);refine Sv ?_;intros;refine Ο.H6 (O.A2 rfl rfl B B) ac ?_;refine Sv ?_;intros;rw[hid];refine R.υ (Y:=Ρ gy ls::(ε aW 5 M ls::obj nb B2 [al lb,E d,E Q,E (n.ω+1),E n.hl,.map (some n.mb),.map (some n.mp),.map (some n.mr)]::τ cu cc n.mb n.δ::ew F7 n.δ::τ cu cg n.mp n.Ζ::ew F2 n.Ζ::τ B7 bE n.mr (G8 n.C1)::aN lb S::L)) ag ?_;refine R.ca (wI M c ls I c0) ?_;rintro _ _⟨ad,fe,D,rfl,b7,rfl⟩;refine R.υ A.JC ?_;refine Sv ?_;intros;refine R.ef (Ef.c8 cu bE (.inl rfl)) ac ?_;rintro _ _⟨mv,rfl,rfl⟩;refine R.ef (Ef.c8 cu bE (.inl rfl)) ac ?_;rintro _ _⟨mt,rfl,rfl⟩;refine Sv ?_;intros;rename_i bx;refine Δ.loop (α:=Nat×OA×Nat) (λg=>(g.1:Int)<=Q) (λg=>[(0,al nb),(1,ae M ls.length c),(2,E G),(11,E F),(12,al bx),(52,E Q),(53,E (g.1:Int))]) (λg=>Υ (a0 .i64) 1 kR g.2.1 g.2.2 (dc (ls.map (·.m)) g.1)::obj bx KL [ae ad D.length fe,ae g.2.1 (dc (ls.map (·.m)) g.1).length g.2.2,E Ev,.map (some mv),.map (some mt),.bool false,.bool false]::τ cu bE mv []::τ cu bE mt []::ε aW 5 ad D::Ρ gy D::Ρ gy ls::ε aW 5 M ls::obj nb B2 [al lb,E d,E Q,E (n.ω+1),E n.hl,.map (some n.mb),.map (some n.mp),.map (some n.mr)]::τ cu cc n.mb n.δ::ew F7 n.δ::τ cu cg n.mp n.Ζ::ew F2 n.Ζ::τ B7 bE n.mr (G8 n.C1)::aN lb S::L) (λg=>Q.toNat - g.1) (0,none,0) iG aA ?_ ?_
 .dsimp only;refine(A.c8 (a0 .i64) 1 kR).trans ?_;rw[show dc (ls.map (·.m)) 0=[] from rfl];exact ag
 rintro⟨k,Jh,LG⟩ d3;dsimp only at d3 ⊢;have e2:=kB (ls.map (·.m)) k;by_cases e4:(k:Int)<Q
 .have a7:=wn (ls.map (·.m)) k;refine Sv ?_;intros;rename_i bs;refine R.υ (Y:=obj bs kR [E (k:Int)]::ε aW 5 M ls::(Υ (a0 .i64) 1 kR Jh LG (dc (ls.map (·.m)) k)::obj bx KL [ae ad D.length fe,ae Jh (dc (ls.map (·.m)) k).length LG,E Ev,.map (some mv),.map (some mt),.bool false,.bool false]::τ cu bE mv []::τ cu bE mt []::ε aW 5 ad D::Ρ gy D::Ρ gy ls::obj nb B2 [al lb,E d,E Q,E (n.ω+1),E n.hl,.map (some n.mb),.map (some n.mp),.map (some n.mr)]::τ cu cc n.mb n.δ::ew F7 n.δ::τ cu cg n.mp n.Ζ::ew F2 n.Ζ::τ B7 bE n.mr (G8 n.C1)::aN lb S::L)) ag ?_;refine R.cr (qK bs (k:Int) M ls.length c ls rfl I) ?_;by_cases hg:∃l∈ls.map (·.m),l.d=(k:Int)
  .rw[μ hg] at a7;rw[bI hg];refine Sv ?_;intros;refine Ο.ef (Ef.a8 (Β:=a0 .i64) (e:=(k:Int)) rfl rfl rfl rfl rfl aS (ga _ _) B B) ac ?_;rintro _ _⟨c4,a9,rfl,rfl⟩;rw[<-a7];refine Sv ?_;intros;refine⟨(k+1,c4,a9),by dsimp only;omega,by dsimp only;omega,?_,by exact ag⟩;dsimp only;rw[bC k];exact aA
  .rw[Ω hg,aJ] at a7;rw[bj hg];refine Sv ?_;intros;refine⟨(k+1,Jh,LG),by dsimp only;omega,by dsimp only;omega,?_,?_⟩
   .dsimp only;rw[bC k];exact aA
   .dsimp only;rw[a7];exact ag
 have d4:k=Q.toNat:=B;subst d4;generalize X2:dc (ls.map (·.m)) Q.toNat=gs at *;refine Δ.υ A.JC ?_;let x:JR:=⟨bx,D,ad,fe,gs,Jh,LG,Ev,[],mv,[],mt,false,false⟩
 have e1:x.m=⟨ls.map (·.m),gs,Ev,[],[],false,false⟩:=by
  show(⟨D.map (·.m),gs,Ev,[],[],false,false⟩:J7)=_;rw[b7]
 have b1:=ld (L:=τ cu bE mv []::τ cu bE mt []::ε aW 5 ad D::Ρ gy D::Ρ gy ls::ε aW 5 M ls::τ cu cc n.mb (fc n.δ F x)::ew F7 n.δ::τ cu cg n.mp n.Ζ::ew F2 n.Ζ::τ B7 bE n.mr (G8 n.C1)::aN lb S::L) nb lb d Q (n.ω+1) n.hl n.mb n.mp n.mr x (B:gs.length<=100) (⟨1,F,0,false,D,ad,fe,[],none,0⟩:Ko) (by
  have h:=zH U b6.2.2 c2 a4;rw[<-b7] at h;exact h) none [] (.inl ⟨rfl,rfl⟩)
 refine Sv ?_;intros;refine R.I1 (Ef.f5 (Β:=cc) x rfl rfl rfl rfl) ?_;rintro _ _ rfl;refine Sv ?_;intros;refine R.υ (Y:=obj nb B2 (cw lb d Q (n.ω+1) n.hl n.mb n.mp n.mr)::ID (⟨1,F,0,false,D,ad,fe,[],none,0⟩:Ko)::obj x.b KL (Jn x)::ε (a0 .i64) 1 x.Jh x.B3::(τ cu bE mv []::τ cu bE mt []::ε aW 5 ad D::Ρ gy D::Ρ gy ls::ε aW 5 M ls::τ cu cc n.mb (fc n.δ F x)::ew F7 n.δ::τ cu cg n.mp n.Ζ::ew F2 n.Ζ::τ B7 bE n.mr (G8 n.C1)::aN lb S::L)) ?_ ?_
 .refine A.trans (cq:=ε aW 5 ad D::Ρ gy D::(τ cu cc n.mb (fc n.δ F x)::ε (a0 .i64) 1 Jh gs::obj bx KL (Jn x)::τ cu bE mv []::τ cu bE mt []::Ρ gy ls::ε aW 5 M ls::obj nb B2 (cw lb d Q (n.ω+1) n.hl n.mb n.mp n.mr)::ew F7 n.δ::τ cu cg n.mp n.Ζ::ew F2 n.Ζ::τ B7 bE n.mr (G8 n.C1)::aN lb S::L)) (by simp only[cw,Jn];exact ag) ?_;refine(CJ (F:=F) (x:=x)).trans ?_;exact ag
 refine R.ca (b1) ?_;rintro _ _⟨b8,a2,T,rfl,c3,rfl⟩;have d1:(⟨1,F,0,false,D,ad,fe,[],none,0⟩:Ko).m=⟨1,F,0,false,ls.map (·.m),[]⟩:=by rw[<-b7];rfl
 rw[d1] at c3;have a5:T.map (·.m)=cJ d gs [] ⟨1,F,0,false,ls.map (·.m),[]⟩:=c3;rw[<-a5] at b5 d0 a6 hR;let n1:E0:={ n with ω:=n.ω+1,δ:=fc n.δ F x }
 have b4:n1.m={ n.m with ω:=n.m.ω+1,δ:=fc n.m.δ F ⟨ls.map (·.m),gs,Ev,[],[],false,false⟩ }:=by
  show({ n with ω:=n.ω+1,δ:=fc n.δ F x }:E0).m=_;rw[<-e1];exact pF { n with ω:=n.ω+1 } F x
 rw[c1] at b4 hin a6;rw[<-b4] at hin a6 hR;have e0:E9 n1.m=E9 n.m:=by rw[b4];rfl
 have b3:T.length<=1000000:=by
  have e:=congrArg List.length a5;have:=jJ d gs [] ⟨1,F,0,false,ls.map (·.m),[]⟩
  rw[ah] at e;omega
 subst hR;dsimp only;refine Sv ?_;intros;refine R.υ (Y:=Υ aV 3 hy b8 a2 T::Ρ cV T::a1 nb lb d Q n1 (aN lb S::L)) ?_ ?_
 .refine A.trans (cq:=J8 x (ew F7 n.δ::(Υ aV 3 hy b8 a2 T::Ρ cV T::obj nb B2 (cw lb d Q (n.ω+1) n.hl n.mb n.mp n.mr)::τ cu cc n.mb (fc n.δ F x)::τ cu cg n.mp n.Ζ::ew F2 n.Ζ::τ B7 bE n.mr (G8 n.C1)::aN lb S::L))) (by simp only[J8];rw[show I3 x.G5=[] from rfl];exact ag) ?_;refine(HY hn d6 x).trans ?_;simp only[a1];exact ag
 refine R.ca (lP nb lb d Q n1 S ζ 2000 (au _) G b8 a2 T (λy Z=>b5 _ (Kg Z)) hin B b3 a6) ?_;rintro _ _⟨c5,b0,ds,n2,rfl,d2,d5,rfl⟩;refine Sv ?_;intros;exact KX.en ⟨c5,b0,ds,n2,rfl,d2,d5,rfl⟩
