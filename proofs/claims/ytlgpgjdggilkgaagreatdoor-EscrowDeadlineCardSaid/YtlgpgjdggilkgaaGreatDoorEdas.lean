/- Lemmas. -/
import Derived.Test.YtlgpgjdggilkgaaGreatDoorEdar
set_option linter.all false
set_option maxHeartbeats 8000000
namespace Go.Proofs.YtlgpgjdggilkgaaGreatDoor
open Go.V
def Px(s:π)(x:iK):π :=
 if s.length≠0/\s[s.length - 1]!.1=x.1/\x.2.1<=s[s.length - 1]!.2.1+s[s.length - 1]!.2.2 then
  s.set (s.length - 1) (s[s.length - 1]!.1,s[s.length - 1]!.2.1,max s[s.length - 1]!.2.2 (x.2.1+x.2.2 - s[s.length - 1]!.2.1))
 else s++[x]
def NM(ys:π):π:=ys.foldl Px []
theorem HI{Δ:π}{l x:iK}(h:l.1=x.1/\x.2.1<=l.2.1+l.2.2):Px (Δ++[l]) x=Δ++[(l.1,l.2.1,max l.2.2 (x.2.1+x.2.2 - l.2.1))]:=by
 grind [Px]
theorem JL{Δ:π}{l x:iK}(h:¬(l.1=x.1/\x.2.1<=l.2.1+l.2.2)):Px (Δ++[l]) x=Δ++[l]++[x]:=by
 grind [Px]
theorem lB(a b:π):aW (a++b)=aW a+aW b:=by
 induction a with
 | nil=>rw[av,jP];omega
 | cons x a ih=>grind [gC]
structure ZI (s P:π):Prop where
 ok:∀y∈s,a0 y
 sl:s.Pairwise sl
 len:s.length<=P.length
 nil:s=[]->P=[]
 top:∀Δ l,s=Δ++[l]->(∀y∈P,y.1<l.1\/(y.1=l.1/\y.2.1+y.2.2<=l.2.1+l.2.2))/\(∃y∈P,y.1=l.1/\y.2.1=l.2.1)/\∃y∈P,y.1=l.1/\y.2.1+y.2.2=l.2.1+l.2.2
 le:aW s<=aW P
 eq:aW s=aW P->L5 P/\∀t,a0 t->OV s t=OV P t
 ap:L5 P->aW s=aW P
theorem sJ{Δ r' : π}{l l' : iK}(h:Δ++[l]=r'++[l']):Δ=r'/\l=l':=by
 grind [List.append_inj']
theorem UR{P:π}{x:iK}:L5 (P++[x])↔L5 P/\∀y∈P,apart y x:=by
 constructor
 .intro h;obtain⟨I,_,h3⟩:=List.pairwise_append.1 h;exact⟨I,λy U=>ah⟩
 .rintro⟨I,Q⟩;exact List.pairwise_append.2 ⟨I,dC _ _,λy U w hw=>by rw[GO hw];exact Q y U⟩
theorem ZI.step{s P:π}(h:ZI s P)(hP:∀y∈P,a0 y){x:iK}(M:a0 x)(ho:∀y∈P,y.1<x.1\/(y.1=x.1/\y.2.1<=x.2.1)):ZI (Px s x) (P++[x]):=by
 have a7:=M;unfold a0 at a7;rcases List.eq_nil_or_concat s with rfl|⟨Δ,l,rfl⟩
 .have hp:=h.nil rfl;subst hp;have e:Px [] x=[x]:=by unfold Px;rw[Ο ah];rfl
  rw[e,av];refine⟨ah,ah,ax _,ah,λΔ l q=>?_,bE _,λ_=>⟨dC _ _,λ_ _=>rfl⟩,λ_=>rfl⟩;grind [sJ]
 rw[List.concat_eq_append] at h ⊢;obtain⟨t1,⟨a,ha,a9,b0⟩,⟨b,hb,b1,b2⟩⟩:=h.top Δ l rfl;have b3:=ho a ha;have T:=h.ok l ah;unfold a0 at T;have b5:=List.pairwise_append.1 h.sl;have b4:∀y∈Δ,Go.Proofs.YtlgpgjdggilkgaaGreatDoor.sl y l:=ah;have J:=h.len;have a6:=h.le;rw[aA,bh] at J;rw[lB,ga] at a6;have A:aW (P++[x])=aW P+x.2.2:=by rw[lB,ga]
 have a2:∀t,OV (P++[x]) t=OV P t+ov x t:=λt=>by rw[gg,jd]
 by_cases c:l.1=x.1/\x.2.1<=l.2.1+l.2.2
 .rw[HI c];obtain⟨N,hN⟩:∃N,N=max l.2.2 (x.2.1+x.2.2 - l.2.1):=⟨_,rfl⟩;rw[<-hN];have hs:aW (Δ++[((l.1,l.2.1,N):iK)])=aW Δ+N:=by rw[lB,ga]
  have he:=h.eq;have a4:=h.ap;rw[lB,ga] at he a4;refine⟨λy U=>?_,?_,ah,(λq=>by simp at q),λr2 l2 q=>?_,D,λq=>?_,λq=>?_⟩
  .rcases J4 U with U|U
   .exact h.ok y ah
   grind [a0]
  .grind [Go.Proofs.YtlgpgjdggilkgaaGreatDoor.sl]
  .grind [sJ]
  .rw[hs,A] at q;obtain⟨e1,e2⟩:=he D;have a5:x.2.1=l.2.1+l.2.2:=D;have a3:N=l.2.2+x.2.2:=D;refine⟨UR.2 ⟨e1,λy U=>?_⟩,λt ht=>?_⟩
   .grind [apart]
   .have e3:=e2 t ht;rw[gg,jd] at e3;unfold a0 at ht
    have e4:ov (l.1,l.2.1,N) t=ov l t+ov x t:=by
     rw[a3,rE,yT t l.1 l.2.1 l.2.2 x.2.2 D D D,rE l t,rE x t,<-a5,c.1];have k1:((x.1,l.2.1,l.2.2):iK)=l:=ah;rw[k1]
    rw[gg,jd,a2,e4];omega
  grind [UR,apart]
 .rw[JL c];have hs:aW (Δ++[l]++[x])=aW (Δ++[l])+x.2.2:=by rw[lB,ga]
  refine⟨λy U=>?_,?_,ah,(λq=>by simp at q),λr2 l2 q=>?_,by rw[hs,A,lB,ga];omega,λq=>?_,λq=>?_⟩
  .rcases J4 U with U|U
   .exact h.ok y U
   grind
  .grind [Go.Proofs.YtlgpgjdggilkgaaGreatDoor.sl]
  .grind [sJ]
  .rw[hs,A] at q;obtain⟨e1,e2⟩:=h.eq D;refine⟨UR.2 ⟨e1,λy U=>?_⟩,λt ht=>?_⟩
   .grind [apart]
   .rw[gg,jd,a2,e2 t ht]
  .rw[hs,A,h.ap (UR.1 q).1]
theorem xC:∀(F9:π) {s P:π},ZI s P->(∀y∈P++F9,a0 y)->(P++F9).Pairwise (λa b=>¬QC b a<0)->ZI (F9.foldl Px s) (P++F9)
 | [],s,P,h,_,_=>ah
 | x::F9,s,P,h,T,hs=>by
  have e:P++x::F9=(P++[x])++F9:=by simp
  have hP:∀y∈P,a0 y:=λy U=>T y (cx _ U);have M:=T x (cj _ au)
  have I:ZI (Px s x) (P++[x]):=h.step hP M λy U=>by
   have:=(List.pairwise_append.1 hs).2.2 y U x au
   rw[qQ] at this;unfold Qm at this;omega
  rw[e] at T hs ⊢;exact xC F9 I T hs
theorem xB{ps ys:π}(h:gY QC ps ys)(T:∀x∈ps,a0 x):Sv (NM ys)/\(NM ys).length<=ps.length/\(aW (NM ys)=aW ps↔L5 ps)/\(L5 ps->∀t,a0 t->OV (NM ys) t=OV ps t):=by
 have U:∀x∈ys,a0 x:=λx M=>T x (h.1.mem_iff.1 M);have h0:ZI [] []:=⟨ah,.nil,ax _,(λ_=>rfl),(λΔ l q=>by simp at q),bE _,λ_=>⟨.nil,λ_ _=>rfl⟩,λ_=>rfl⟩;have z:ZI (NM ys) ys:=xC ys h0 U h.2;have pa:L5 ps↔L5 ys:=(h.1.pairwise_iff (λ {a b} q=>by unfold apart at *;omega)).symm;have A:aW ys=aW ps:=Gp h.1;refine⟨⟨z.ok,z.sl⟩,by rw[<-h.1.length_eq];exact z.len,?_,λq t ht=>?_⟩
 .rw[<-A,pa];exact⟨λq=>(z.eq q).1,z.ap⟩
 .rw[(z.eq (z.ap (pa.1 q))).2 t ht];exact Lm h.1 t
end Go.Proofs.YtlgpgjdggilkgaaGreatDoor
namespace Go.V
def uZ(ad:OA):Prop:=∃a,ad=some a
theorem Z.c7{P:Program}{L:Ι}{env:Env}{ty:TypeId}{x:Operand}{ad:OA}{sz j o:Nat}(M:bG env x=some (.pointer (OQ ad sz j o)))(h:uZ ad):Z P L env (.nilCheck x) ty (.pointer (OQ ad sz j o)):=by
 obtain⟨g,rfl⟩:=h;exact Z.nilCheck (a:=Addr.add g (j*sz+o)) M
def pD{α:Type}{Η:α->χ}{sz ζ:Nat}{ad:OA}{cap:Nat}{G:List α}{L R' : Ι}[h:RH L ad α Η sz ζ cap G R'](h0:0<G.length):∀θ R w,Sat θ (L++R) w->uZ ad:=λθ R w s=>by
 have s1:Sat θ (μ Η sz ζ ad cap G::(R'++R)) w:=s.perm (h.perm.append_right R);obtain⟨_,I,_,Q⟩:=s1.Qw;rcases Q with⟨_,h3⟩|⟨g,A,h3,_⟩
 .omega
 .exact⟨_,h3⟩
end Go.V
namespace Go.Proofs.YtlgpgjdggilkgaaGreatDoor
section
open Go.V
attribute [local irreducible] Β Y GP δ vi Z Ef C0 E CB GB V.Enters
abbrev DX:=Yw [.ev 17,.ev 18,.ev 19,.ev 20,.ev 21,.ev 22,.ev 23,.ev 24,.ev 25,.ev 26,.ev 27,.ev 28,.ev 29,.ev 30]
abbrev DW:=Yu [.ev 10,.ef 11]
def Pa{φ ψ:Prop}(k:ψ)(h:Hid ψ->φ:=by intro k;(repeat (first|refine ab ?_|intro B8|refine Β.dr 59 4 DX ?_|refine Β.dr 59 5 DW ?_));(repeat revert B8);exact Hid.out k):φ:=h ⟨k⟩
theorem wg{L:Ι}(ad:OA)(cap:Nat)(G:π)(x:iK)(T:G.length<=100000000)(a7:∀y∈G,J9 y)(M:J9 x) :
  Υ Λ 105 #[ae ad G.length cap,bC (aK x)] (μ aK 3 I5 ad cap G::L) (λv Ε=>∃a4 a2,v=ae a4 (bF G x).length a2/\Ε = μ aK 3 I5 a4 a2 (bF G x)::L):=by
 refine Υ.bd ?_;simp only[aK];by_cases h0:x.2.2=0
 .have e:bF G x=G:=by unfold bF;rw[Ω h0]
  rw[e];refine Pa ?_;intros;exact KX.en ⟨ad,cap,rfl,rfl⟩
 by_cases I:G.length=0
 .have e:bF G x=G++[x]:=by unfold bF;rw[Ο h0,Ο D]
  rw[e];refine Pa ?_;intros;refine Y.ef (Ef.a8 (Η:=aK) (e:=x) rfl rfl rfl rfl rfl aY (fY _) D D) ac ?_;rintro _ _⟨J,A,rfl,rfl⟩;refine Pa ?_;intros;exact KX.en ⟨J,A,rfl,rfl⟩
 have a3:((G.length:Int) - 1).toNat=G.length - 1:=D;have a5:=a7 _ (bI (D:G.length - 1<G.length));rw[<-a3] at a5;unfold J9 at a5 M;by_cases hc:lK x G[((G.length:Int) - 1).toNat]!
 .have a6:=Ti.1 hc;obtain⟨a9,b0⟩:=a6
  have e:bF G x=G.set ((G.length:Int) - 1).toNat (G[((G.length:Int) - 1).toNat]!.1,G[((G.length:Int) - 1).toNat]!.2.1,G[((G.length:Int) - 1).toNat]!.2.2+x.2.2):=by
   unfold bF;rw[a3] at hc ⊢;rw[Ο h0,Ω ⟨I,hc⟩]
  rw[e];refine Pa ?_;intros;refine δ.No (Ef.d7 (e:=((G[((G.length:Int) - 1).toNat]!.1,G[((G.length:Int) - 1).toNat]!.2.1,G[((G.length:Int) - 1).toNat]!.2.2+x.2.2):iK)) rfl rfl aY rfl D ac) ?_;rintro _ _ rfl;refine Pa ?_;intros;exact KX.a8 aC aj ⟨ad,cap,by rw[bU];rfl,rfl⟩
 .have e:bF G x=G++[x]:=by
   unfold bF;rw[a3] at hc;rw[Ο h0,Ο ah]
  rw[e];rw[Ti] at hc;by_cases hf:x.1=G[((G.length:Int) - 1).toNat]!.1
  .have ha:¬x.2.1=G[((G.length:Int) - 1).toNat]!.2.1+G[((G.length:Int) - 1).toNat]!.2.2:=D;refine Pa ?_;intros;refine Y.ef (Ef.a8 (Η:=aK) (e:=x) rfl rfl rfl rfl rfl aY (fY _) D D) ac ?_;rintro _ _⟨J,A,rfl,rfl⟩;refine Pa ?_;intros;exact KX.en ⟨J,A,rfl,rfl⟩
  .refine Pa ?_;intros;refine Y.ef (Ef.a8 (Η:=aK) (e:=x) rfl rfl rfl rfl rfl aY (fY _) D D) ac ?_;rintro _ _⟨J,A,rfl,rfl⟩;refine Pa ?_;intros;exact KX.en ⟨J,A,rfl,rfl⟩
abbrev DV:=Yr [.ev 5,.ev 6,.ev 7,.ev 8,.ef 4,.ef 9,.ef 10,.ef 11,.ev 12]
def Pj{φ ψ:Prop}(k:ψ)(h:Hid ψ->φ:=by intro k;(repeat (first|refine ab ?_|intro B8|refine Β.dr 17 1 DV ?_));(repeat revert B8);exact Hid.out k):φ:=h ⟨k⟩
def FJ{L:Ι}(x y:iK):Υ Λ 118 #[bC (aK x),bC (aK y)] L (F7 (K (QC x y)) L):=by
 refine Υ.bd ?_;refine Pj ?_;intros;refine δ.cr (kn x.1 y.1) ?_;refine Pj ?_;intros;refine δ.cr (kn x.2.1 y.2.1) ?_;refine Pj ?_;intros;rename_i bc;refine δ.cM (E.d9 (Η:=eU .i64) (sz:=1) (G:=[Pd x.1 y.1,Pd x.2.1 y.2.1]) rfl rfl (λ_ _=>rfl) cg) ?_;refine δ.cr (pE (some ⟨bc,0,none⟩) 2 (Pd x.1 y.1) (Pd x.2.1 y.2.1)) ?_;refine Pj ?_;intros;exact KX.en ⟨rfl,rfl⟩
def xT{ζ cap:Nat}{ad:OA}{G:π}(A:G.length<4611686018427387904) :
  Υ Λ 117 #[ae ad G.length cap,.func (.func 118) #[] #[]] [μ aK 3 ζ ad cap G] (λv Ε=>v=.tuple #[]/\∃ys,gY QC G ys/\Ε = [μ aK 3 ζ ad cap ys]) :=
 Υ.a8 (ρ:=Tryz.Xj) Tryz.Za (k:=3) Tryz.isAgg47 Tryz.sizeOf47 (λ_=>rfl) fY (Lc:=[]) QC CK ME YW.1 (λ_ _ _=>trivial) (λx y=>(FJ (L:=[]) x y).mono (λ_ _ h=>h.1)) A
def qm{ys:π}{k:Nat}(h:k<ys.length):NM (ys.take (k+1))=Px (NM (ys.take k)) ys[k]!:=jY Px [] h
theorem JK(s:π)(x:iK):(Px s x).length<=s.length+1:=by
 grind [Px]
def xA(ys:π):∀k,k<=ys.length->(NM (ys.take k)).length<=k
 | 0,_=>ax _
 | k+1,h=>by
  have I:=xA ys k D;have Q:=JK (NM (ys.take k)) ys[k]!;rw[qm D];omega
def Fq{ys:π}(hw:∀y∈ys,a0 y):∀k,k<=ys.length->∀y∈NM (ys.take k),a0 y
 | 0,_=>λ_ h=>by cases h
 | k+1,h=>by
  have I:=Fq hw k D;have M:=hw _ (bI (D:k<ys.length));rw[qm D];generalize ys[k]! = x at M;generalize NM (ys.take k)=s at I;unfold a0 at M;unfold Px;split
  .rename_i hc;intro y U;rcases List.mem_or_eq_of_mem_set U with U|rfl
   .exact I y U
   .have:=I _ (bI (D:s.length - 1<s.length))
    unfold a0 at this ⊢;dsimp only;omega
  .intro y U;rcases J4 U with U|U
   .exact I y U
   .rw[GO U];unfold a0;omega
abbrev FU:=Yw [.ev 17,.ev 18,.ev 19,.ev 20,.ev 21,.ev 22,.ev 23,.ev 24,.ev 25,.ev 26,.ev 27,.ev 28,.ev 29,.ev 30]
abbrev DU:=Yw [.ev 17,.ef 18]
def Pn{φ ψ:Prop}(k:ψ)(h:Hid ψ->φ:=by intro k;(repeat (first|refine ab ?_|intro B8|refine Β.dr 80 8 FU ?_|refine Β.dr 80 10 DU ?_));(repeat revert B8);exact Hid.out k):φ:=h ⟨k⟩
def qs{L:Ι}(ad:OA)(n c:Nat)(G:π)[F5 L ad iK aK 3 G](hn:n=G.length)(T:G.length<=100000)(hw:∀x∈G,a0 x) :
  Υ Λ 56 #[ae ad n c] L (λv Ε=>∃b2 a5 ys,v=ae b2 (NM ys).length a5/\gY QC G ys/\Ε = μ aK 3 I5 b2 a5 (NM ys)::L):=by
 subst hn;refine Υ.bd ?_;refine Pn ?_;intros;refine Y.ca (ju ad G.length c G rfl D) ?_;rintro _ _⟨a2,c1,rfl,rfl⟩;refine Pn ?_;intros;(first|refine Y.ef (Ef.call (xT (ζ:=I5) (ad:=a2) (cap:=c1) (G:=G) D) rfl fT) ac ?_);rintro _ _⟨_,⟨rfl,ys,b1,rfl⟩,hL⟩;simp only[aq,av] at hL;subst hL;have c2:=b1.1.length_eq;have b6:∀y∈ys,a0 y:=λy U=>hw y (b1.1.mem_iff.1 U);rw[<-c2];refine Pn ?_;intros;refine Β.cM (Ε:=μ aK 3 I5 none 0 []::μ aK 3 I5 a2 c1 ys::L) (E.c8 aK 3 I5) ?_;refine Β.loop (α:=Nat×OA×Nat) (λg=>g.1<=ys.length) (λg=>[(4,ae g.2.1 (NM (ys.take g.1)).length g.2.2),(13,ae a2 ys.length c1),(14,K ys.length),(15,K (g.1:Int))]) (λg=>μ aK 3 I5 g.2.1 g.2.2 (NM (ys.take g.1))::μ aK 3 I5 a2 c1 ys::L) (λg=>ys.length - g.1) (0,none,0) D aG (E.refl _) ?_;rintro⟨k,a3,J⟩ hk;dsimp only at hk ⊢;by_cases b8:k<ys.length
 case neg =>
  rw[aN D];refine Pn ?_;intros;exact KX.en ⟨a3,J,ys,rfl,b1,rfl⟩
 have b7:(k:Int).toNat=k:=D;have b0 : (k:Int).toNat<ys.length:=D;have M:=b6 _ (bI b0);have et:=qm b8;rw[show ys[k]! = ys[(k:Int).toNat]! by rw[b7]] at et;have b9:=xA ys k D;have b4:=Fq b6 k D;obtain⟨x,b5⟩:∃x,ys[(k:Int).toNat]! = x:=⟨_,rfl⟩;rw[b5] at M et;generalize NM (ys.take k)=s at b9 b4 et ⊢;have c0:=M;unfold a0 at c0;refine Β.c8 (show ∀θ R w,Sat θ ((μ aK 3 I5 a3 J s::μ aK 3 I5 a2 c1 ys::L)++R) w->(0<s.length->uZ a3) from λθ R w q h0=>pD (ad:=a3) (cap:=J) (G:=s) (Η:=aK) (sz:=3) (ζ:=I5) h0 θ R w q) ?_;intro a7;refine Pn ?_;intros;rw[b5];simp only[aK];by_cases I:s.length=0
 .have e:Px s x=s++[x]:=by unfold Px;rw[Ο D]
  refine Pn ?_;intros;refine Y.ef (Ef.a8 (Η:=aK) (e:=x) rfl rfl rfl rfl rfl aY (fY _) D D) ac ?_;rintro _ _⟨a4,A,rfl,rfl⟩;refine Pn ?_;intros;refine⟨(k+1,a4,A),by dsimp only;omega,by dsimp only;omega,?_,?_⟩
  .dsimp only;rw[et,e,bJ k];exact aG
  .dsimp only;rw[et,e];exact aj
 have a6:=a7 D;have a9:((s.length:Int) - 1).toNat=s.length - 1:=D;have b3:=b4 _ (bI (D:s.length - 1<s.length));rw[<-a9] at b3;unfold a0 at b3;by_cases hc:s[((s.length:Int) - 1).toNat]!.1=x.1/\x.2.1<=s[((s.length:Int) - 1).toNat]!.2.1+s[((s.length:Int) - 1).toNat]!.2.2
 .have e:Px s x=s.set ((s.length:Int) - 1).toNat (s[((s.length:Int) - 1).toNat]!.1,s[((s.length:Int) - 1).toNat]!.2.1,max s[((s.length:Int) - 1).toNat]!.2.2 (x.2.1+x.2.2 - s[((s.length:Int) - 1).toNat]!.2.1)):=by
   unfold Px;rw[a9] at hc ⊢;rw[Ω ⟨I,hc⟩]
  obtain⟨c3,c4⟩:=hc;refine Pn ?_;intros;refine δ.MP (Z.c7 rfl a6) ac ?_;refine Pn ?_;intros;refine δ.MP (Z.c7 rfl a6) ac ?_;refine Pn ?_;intros;refine δ.MP (Z.c7 rfl a6) ac ?_;refine Pn ?_;intros;refine δ.No (Ef.d7 (e:=((s[((s.length:Int) - 1).toNat]!.1,s[((s.length:Int) - 1).toNat]!.2.1,max s[((s.length:Int) - 1).toNat]!.2.2 (x.2.1+x.2.2 - s[((s.length:Int) - 1).toNat]!.2.1)):iK)) rfl rfl aY rfl D ac) ?_;rintro _ _ rfl;refine Pn ?_;intros;refine⟨(k+1,a3,J),by dsimp only;omega,D,?_,?_⟩
  .dsimp only;rw[et,e,bU,bJ k];exact aG
  .dsimp only;rw[et,e];exact aj
 have e:Px s x=s++[x]:=by
  unfold Px;rw[a9] at hc;rw[Ο D]
 by_cases hf:s[((s.length:Int) - 1).toNat]!.1=x.1
 .have ha:¬x.2.1<=s[((s.length:Int) - 1).toNat]!.2.1+s[((s.length:Int) - 1).toNat]!.2.2:=D;refine Pn ?_;intros;refine Y.ef (Ef.a8 (Η:=aK) (e:=x) rfl rfl rfl rfl rfl aY (fY _) D D) ac ?_;rintro _ _⟨a4,A,rfl,rfl⟩;refine Pn ?_;intros;refine⟨(k+1,a4,A),by dsimp only;omega,by dsimp only;omega,?_,?_⟩
  .dsimp only;rw[et,e,bJ k];exact aG
  .dsimp only;rw[et,e];exact aj
 .refine Pn ?_;intros;refine Y.ef (Ef.a8 (Η:=aK) (e:=x) rfl rfl rfl rfl rfl aY (fY _) D D) ac ?_;rintro _ _⟨a4,A,rfl,rfl⟩;refine Pn ?_;intros;refine⟨(k+1,a4,A),by dsimp only;omega,by dsimp only;omega,?_,?_⟩
  .dsimp only;rw[et,e,bJ k];exact aG
  .dsimp only;rw[et,e];exact aj
end
section
open Go.V
theorem yl{x:iK}{set:π}(h:Sv set){p q:Nat}(a2:p<=q)(hq:q<set.length)(hp:NB x set[p]!):NB x set[q]!:=by
 rcases Nat.lt_or_ge p q with A|J
 .have I:=(List.pairwise_iff_getElem.1 h.sl) p q D hq A;have Q:=h.ok _ (bI hq);grind [NB,sl,a0]
 grind
def JA(q:iK×Bool):χ:=[bC (aK q.1),.bool q.2]
attribute [local irreducible] Β Y GP δ vi Z Ef C0 E CB GB V.Enters
abbrev DT:=Yw [.ev 17,.ev 18,.ev 19,.ev 20,.ev 21,.ev 22,.ev 23,.ev 24,.ev 25,.ev 26,.ev 27,.ev 28,.ev 29,.ev 30,.ev 31,.ev 32,.ev 33,.ev 34]
def PF{φ ψ:Prop}(k:ψ)(h:Hid ψ->φ:=by intro k;(repeat (first|refine ab ?_|intro B8|refine Β.dr 39 1 DT ?_));(repeat revert B8);exact Hid.out k):φ:=h ⟨k⟩
theorem Et{L:Ι}(bs bx:Nat)(K0:OA)(sc:Nat)(set:π)[hr:F5 L K0 iK aK 3 set](x:iK)(M:J9 x)(hw:∀y∈set,a0 y)(a2:set.length<=1000000)(k:Nat)(hk:k<set.length) :
  Υ Λ 172 #[K (k:Int),ay bs,ay bx] (obj bs gw [ae K0 set.length sc]::obj bx I5 (aK x)::L) (F7 (.bool (dB (NB x set[k]!))) (obj bs gw [ae K0 set.length sc]::obj bx I5 (aK x)::L)):=by
 have J:(k:Int).toNat=k:=D;have A:=hw _ (bI hk);unfold a0 at A;unfold J9 at M;rw[show set[k]! = set[(k:Int).toNat]! by rw[J]] at A ⊢;simp only[aK];refine Υ.bd ?_;by_cases c1:x.1<set[(k:Int).toNat]!.1
 .rw[bO (show NB x set[(k:Int).toNat]! from .inl c1)];refine PF ?_;intros;exact KX.en ⟨rfl,rfl⟩
 by_cases c2:set[(k:Int).toNat]!.1=x.1
 .by_cases c3:x.2.1<set[(k:Int).toNat]!.2.1+set[(k:Int).toNat]!.2.2
  .rw[bO (show NB x set[(k:Int).toNat]! from .inr ⟨c2,c3⟩)];refine PF ?_;intros;exact KX.a8 aC aj ⟨by rw[bO c3];rfl,rfl⟩
  .rw[bz (by grind [NB])];refine PF ?_;intros;exact KX.a8 aC aj ⟨by rw[bz c3];rfl,rfl⟩
 .rw[bz (by grind [NB])];refine PF ?_;intros;exact KX.en ⟨rfl,rfl⟩
theorem AE{L:Ι}(bs bx:Nat)(K0:OA)(sc:Nat)(set:π)[hr:F5 L K0 iK aK 3 set](x:iK)(M:J9 x)(hs:Sv set)(a2:set.length<=1000000) :
  Υ Λ 151 #[K (set.length:Int),.func (.func 172) #[] #[ay bs,ay bx]] (obj bs gw [ae K0 set.length sc]::obj bx I5 (aK x)::L) (λv Ε=>∃i:Nat,v=K (i:Int)/\(i<=set.length/\(∀p,p<i->¬NB x set[p]!)/\(i<set.length->NB x set[i]!))/\Ε = obj bs gw [ae K0 set.length sc]::obj bx I5 (aK x)::L):=by
 refine Υ.bd ?_;refine ML ?_;intros;refine Β.loop (α:=Nat×Nat) (λg=>(g.1<=g.2/\g.2<=set.length)/\(∀p,p<g.1->¬NB x set[p]!)/\∀p,g.2<=p->p<set.length->NB x set[p]!) (λg=>[(1,.func (.func 172) #[] #[ay bs,ay bx]),(5,K (g.1:Int)),(6,K (g.2:Int))]) (λ_=>obj bs gw [ae K0 set.length sc]::obj bx I5 (aK x)::L) (λg=>g.2 - g.1) (0,set.length) ah aG (E.refl _) ?_;rintro⟨i,j⟩ ⟨⟨I,Q⟩,h3,h4⟩;dsimp only at I Q h3 h4 ⊢;by_cases a3:i<j
 case neg =>
  have A:i=j:=D;subst A;refine ML ?_;intros;exact KX.a8 aC (E.refl _) ⟨i,rfl,⟨Q,h3,λq=>ah⟩,rfl⟩
 refine ML ?_;intros;refine Y.ev (Z.shr rfl rfl ac) ac ?_
 have e2:((i:Int)+(j:Int)).fdiv (2 ^ min ((1:Int).toNat) IntKind.u64.bits)=(((i+j) / 2:Nat):Int):=by
  rw[dK _ ac];simp[IntKind.bits]
 rw[e2];obtain⟨h,hh⟩:∃h,(i+j) / 2=h:=⟨_,rfl⟩;rw[hh];refine ML ?_;intros;refine Y.ef (Ef.f7 rfl rfl (Et bs bx K0 sc set x M hs.ok a2 h D)) ac ?_;rintro _ _⟨rfl,rfl⟩;by_cases hc:NB x set[h]!
 .rw[bO hc];refine ML ?_;intros;exact⟨(i,h),⟨⟨D,D⟩,h3,λp hp J=>yl hs hp J hc⟩,D,aG,E.refl _⟩
 .rw[bz hc];refine ML ?_;intros;refine⟨(h+1,j),⟨⟨D,D⟩,λp hp q=>?_,h4⟩,D,?_,E.refl _⟩
  .grind [yl]
  .rw[show(((h+1,j):Nat×Nat).1:Int)=(h:Int)+1 by simp];exact aG
end
section
open Go.V
attribute [local irreducible] Β Y GP δ vi Z Ef C0 E CB GB V.Enters
abbrev DS:=Yw [.ev 17,.ev 18,.ev 19,.ev 20,.ev 21,.ev 22,.ev 23,.ev 24,.ev 25,.ev 26,.ev 27,.ev 28,.ev 29,.ev 30,.ev 31]
abbrev DR:=Yu []
abbrev DQ:=Yw [.ev 17]
def bK{φ ψ:Prop}(k:ψ)(h:Hid ψ->φ:=by intro k;(with_reducible apply Β.a8);first|refine Β.dr 131 4 DS (Hid.out k)|refine Β.dr 131 6 DR (Hid.out k)|refine Β.dr 131 9 DQ (Hid.out k)):φ:=h ⟨k⟩
def PJ{φ ψ:Prop}(k:ψ)(h:Hid ψ->φ:=by intro k;(repeat (first|refine ab ?_|intro B8|refine bK ?_));(repeat revert B8);exact Hid.out k):φ:=h ⟨k⟩
def yK(bl bs:Nat)(ad:OA)(c:Nat)(l:π)(K0:OA)(sc:Nat)(set:π)(e9:l.length<=1000000)(e7:set.length<=1000000)(hw:∀x∈l,a0 x)(hs:Sv set) :
  Fp Λ 171 [ay bl,ay bs] ((l.flatMap (Oe set)).map JA) [obj bl gw [ae ad l.length c],obj bs gw [ae K0 set.length sc],τ aK 3 ad l,τ aK 3 K0 set] []:=by
 intro i J8 Jx U;rw[ak]
 have a7 : ∀H7 q R,l.flatMap (Oe set)=H7++q::R->Sp Λ i (JA q) [J8 H7.length] (λv Ε=>(v=.bool true/\Ε = [J8 (H7.length+1)])\/(v=.bool false/\Ε = [Jx H7.length])):=by
  intro H7 q R e;have hk:H7.length<(l.flatMap (Oe set)).length:=by rw[e,aA,aL];omega
  have h:=U H7.length (by rw[ak];exact hk);rw[eW] at h;have e2:(l.flatMap (Oe set))[H7.length]=q:=(List.getElem_of_eq e hk).trans cg;rw[e2] at h;exact h
 clear U;have hV:∀k,k<=l.length->l.flatMap (Oe set)=(l.take k).flatMap (Oe set)++(l.drop k).flatMap (Oe set):=λk _=>by rw[<-dJ,cL]
 obtain⟨V,c6⟩:∃V,l.flatMap (Oe set)=V:=⟨_,rfl⟩;rw[c6] at a7 hV ⊢;refine Υ.bd (args:=[.func (.yield i) #[] #[],ay bl,ay bs]) ?_;refine PJ ?_;intros;refine Β.loop (α:=Nat) (λk=>k<=l.length) (λk=>[(0,.func (.yield i) #[] #[]),(1,ay bl),(2,ay bs),(9,ae ad l.length c),(10,K l.length),(11,K (k:Int))]) (λk=>[J8 ((l.take k).flatMap (Oe set)).length,obj bl gw [ae ad l.length c],obj bs gw [ae K0 set.length sc],τ aK 3 ad l,τ aK 3 K0 set]) (λk=>l.length - k) 0 (aD _) aG (E.refl _) ?_;intro k hk;by_cases d3:k<l.length
 case neg =>
  have e5:k=l.length:=D;have e:(l.take k).flatMap (Oe set)=V:=by rw[e5,cK,c6]
  rw[e];refine PJ ?_;intros;exact KX.c8 aC (E.a8 (E.nil _)) (.inl rfl)
 have e4:(k:Int).toNat=k:=bB k;have b4 : (k:Int).toNat<l.length:=D;obtain⟨x0,a6⟩:∃x0,l[(k:Int).toNat]! = x0:=⟨_,rfl⟩;have b8:a0 x0:=by rw[<-a6];exact hw _ (bI b4)
 have a4:l[k]! = x0:=by rw[<-a6,e4]
 have hd:l.drop k=x0::l.drop (k+1):=by rw[ka d3,a4]
 have a9:V=(l.take k).flatMap (Oe set)++(Oe set x0++(l.drop (k+1)).flatMap (Oe set)):=by
  have:=hV k hk
  rw[hd,aS] at this;exact this
 have c0:=hV (k+1) d3;obtain⟨R,hR⟩:∃R,(l.drop (k+1)).flatMap (Oe set)=R:=⟨_,rfl⟩;rw[hR] at a9 c0
 have a3:∀H7,V=H7++R->H7.length=((l.take (k+1)).flatMap (Oe set)).length:=λH7 e=>by
  have:=List.append_cancel_right (c0.symm.trans e)
  rw[this]
 refine PJ ?_;intros;rw[a6];refine PJ ?_;intros;rename_i bx;refine Y.cM (Ε:=obj bs gw [ae K0 set.length sc]::obj bx I5 (aK x0)::[J8 ((l.take k).flatMap (Oe set)).length,obj bl gw [ae ad l.length c],τ aK 3 ad l,τ aK 3 K0 set]) (by simp only[aK];exact aj) ?_;refine Y.ca (AE bs bx K0 sc set x0 b8.w hs e7) ?_;rintro _ _⟨i0,rfl,⟨b3,d0,d1⟩,rfl⟩;have b7:set.drop i0=QS x0 set:=xW x0 b3 d0 d1;have b2:=pi x0 hs.sl hs.ok;rw[<-b7] at b2;have b0:V=(l.take k).flatMap (Oe set)++(QE (set.drop i0) x0++R):=by rw[b7];exact a9
 generalize (l.take k).flatMap (Oe set)=D0 at b0;clear b7 d0 d1 a9;refine PJ ?_;intros;refine Β.loop (α:=iK×Nat×List (iK×Bool)) (λg=>J9 g.1/\g.2.1<=set.length/\(∀y∈set.drop g.2.1,NB g.1 y)/\V=g.2.2++(QE (set.drop g.2.1) g.1++R)) (λg=>[(0,.func (.yield i) #[] #[]),(1,ay bl),(2,ay bs),(5,ay bx),(6,K (g.2.1:Int)),(9,ae ad l.length c),(10,K l.length),(11,K (k:Int))]) (λg=>[J8 g.2.2.length,obj bl gw [ae ad l.length c],obj bs gw [ae K0 set.length sc],obj bx I5 (aK g.1),τ aK 3 ad l,τ aK 3 K0 set]) (λg=>set.length - g.2.1) (x0,i0,D0) ⟨b8.w,b3,b2,b0⟩ aG (by simp only[aK];exact aj) ?_;clear b0 b2 b3 b8 a6 a4 hd;rintro⟨x,j,H7⟩ ⟨d6,hj,hh,A⟩;dsimp only at d6 hj hh A ⊢;have b9:=d6;unfold J9 at b9;have e3:(j:Int).toNat=j:=bB j;have d2:set[j]! = set[(j:Int).toNat]!:=by rw[e3]
 have e0:j<set.length->a0 set[(j:Int).toNat]!:=λh=>by rw[<-d2];exact hs.ok _ (bI h)
 have b1:j<set.length->set.drop j=set[(j:Int).toNat]!::set.drop (j+1):=λh=>by rw[ka h,d2]
 simp only[aK];repeat first|refine Β.sn 4 ?_|refine dz ?_|intro _|refine bK ?_
 refine Β.c7 (α:=Unit) (λ_=>True) (λ_=>[(0,.func (.yield i) #[] #[]),(1,ay bl),(2,ay bs),(5,ay bx),(6,K (j:Int)),(9,ae ad l.length c),(10,K l.length),(11,K (k:Int)),(50,.bool (dB (0<x.2.2/\j<set.length/\set[(j:Int).toNat]!.1=x.1/\set[(j:Int).toNat]!.2.1<x.2.1+x.2.2)))]) (λ_=>[J8 H7.length,obj bl gw [ae ad l.length c],obj bs gw [ae K0 set.length sc],obj bx I5 [K x.1,K x.2.1,K x.2.2],τ aK 3 ad l,τ aK 3 K0 set]) ?_ ?_
 .by_cases c1:0<x.2.2
  case neg =>
   rw[bz (λq=>c1 q.1)];refine PJ ?_;intros;exact⟨(),trivial,aG,E.refl _⟩
  by_cases c2:j<set.length
  case neg =>
   rw[bz (λq=>c2 q.2.1)];refine PJ ?_;intros;exact⟨(),trivial,aG,E.refl _⟩
  have J:=e0 c2;unfold a0 at J;by_cases c3:set[(j:Int).toNat]!.1=x.1
  case neg =>
   rw[bz (λq=>c3 q.2.2.1)];refine PJ ?_;intros;exact⟨(),trivial,aG,E.refl _⟩
  rw[show dB (0<x.2.2/\j<set.length/\set[(j:Int).toNat]!.1=x.1/\set[(j:Int).toNat]!.2.1<x.2.1+x.2.2)=dB (set[(j:Int).toNat]!.2.1<x.2.1+x.2.2) from by rw[dF,dF];exact decide_eq_decide.2 ⟨λq=>q.2.2.2,λq=>⟨c1,c2,c3,q⟩⟩];refine PJ ?_;intros;exact⟨(),trivial,aG,E.refl _⟩
 rintro _ _;by_cases C:0<x.2.2/\j<set.length/\set[(j:Int).toNat]!.1=x.1/\set[(j:Int).toNat]!.2.1<x.2.1+x.2.2
 case neg =>
  rw[bz C];by_cases c1:0<x.2.2
  .have e6:QE (set.drop j) x=[(x,false)]:=by
    by_cases c2:j<set.length
    .rw[b1 c2];exact sQ c1 (λq=>C ⟨c1,c2,q.1,q.2⟩)
    .rw[bV D];exact Ω c1
   rw[e6] at A;have a5:=a7 H7 (x,false) R A;have he:=a3 (H7++[(x,false)]) (by rw[A];simp);rw[aA,bh] at he;refine PJ ?_;intros;refine Y.cM (E.at (Φ:=J8 H7.length) (E.refl _)) ?_;((with_reducible apply Y.a8);refine Y.TG (C0.yield (a5) rfl rfl fT) ac ?_);rintro _ _⟨_,(⟨rfl,rfl⟩|⟨rfl,rfl⟩),hL⟩
   .simp only[aq,av] at hL;subst hL;refine PJ ?_;intros;refine⟨k+1,D,D,?_,?_⟩
    .rw[show(((k+1:Nat)):Int)=(k:Int)+1 by omega];exact aG
    .rw[<-he];exact aj
   .simp only[aq,av] at hL;subst hL;refine PJ ?_;intros;exact KX.a8 aC (E.a8 (E.nil _)) (.inr ⟨H7.length,rfl⟩)
  .have he:=a3 H7 (by rw[A,yL c1];rfl);refine PJ ?_;intros;refine⟨k+1,D,D,?_,?_⟩
   .rw[show(((k+1:Nat)):Int)=(k:Int)+1 by omega];exact aG
   .rw[<-he];exact aj
 rw[bO C];obtain⟨c1,c2,c3,c4⟩:=C;have J:=e0 c2;have d4:=hh set[(j:Int).toNat]! (by rw[b1 c2];exact au);have b6:(set.drop j).Pairwise sl:=(hs.sl.sublist (List.drop_sublist j set));rw[b1 c2] at b6 A hh;rw[List.pairwise_cons] at b6
 have e1:∀w∈set.drop (j+1),NB (RQ x set[(j:Int).toNat]!) w:=λw hw=>by
  have I:=b6.1 w hw;have Q:=hs.ok w (eK hw);unfold sl at I;unfold a0 at Q J;unfold NB RQ QD OS;dsimp only;omega
 rw[Ct ⟨c1,c3,c4⟩] at A
 have e8:J9 (RQ x set[(j:Int).toNat]!):=by
  unfold a0 at J;unfold NB at d4;unfold J9 RQ QD OS;dsimp only;omega
 have ho:0<=OS x set[(j:Int).toNat]!/\OS x set[(j:Int).toNat]! < x.2.2/\0<QD x set[(j:Int).toNat]!/\QD x set[(j:Int).toNat]!<=x.2.2 - OS x set[(j:Int).toNat]!:=by
  unfold a0 at J;unfold NB at d4;unfold QD OS;omega
 have eo:max 0 (set[(j:Int).toNat]!.2.1 - x.2.1)=OS x set[(j:Int).toNat]!:=rfl;have ei:min (x.2.2 - OS x set[(j:Int).toNat]!) (set[(j:Int).toNat]!.2.1+set[(j:Int).toNat]!.2.2 - (x.2.1+OS x set[(j:Int).toNat]!))=QD x set[(j:Int).toNat]!:=rfl;have e2:RQ x set[(j:Int).toNat]! = (x.1,x.2.1+OS x set[(j:Int).toNat]! + QD x set[(j:Int).toNat]!,x.2.2 - OS x set[(j:Int).toNat]! - QD x set[(j:Int).toNat]!):=rfl;unfold a0 at J;repeat first|refine Β.sn 6 ?_|refine dz ?_|intro _|refine bK ?_
 refine Β.c7 (α:=Unit) (λ_=>True) (λ_=>[(0,.func (.yield i) #[] #[]),(1,ay bl),(2,ay bs),(5,ay bx),(6,K (j:Int)),(7,K (OS x set[(j:Int).toNat]!)),(9,ae ad l.length c),(10,K l.length),(11,K (k:Int))]) (λ_=>[J8 H7.length,obj bl gw [ae ad l.length c],obj bs gw [ae K0 set.length sc],obj bx I5 [K x.1,K x.2.1,K x.2.2],τ aK 3 ad l,τ aK 3 K0 set]) ?_ ?_
 .rw[<-eo];refine PJ ?_;intros;exact⟨(),trivial,aG,E.refl _⟩
 rintro _ _;obtain⟨o,b5⟩:∃o,OS x set[(j:Int).toNat]! = o:=⟨_,rfl⟩;obtain⟨q,d5⟩:∃q,QD x set[(j:Int).toNat]! = q:=⟨_,rfl⟩;rw[b5,d5] at ho e2 ei;rw[b5,d5] at A;rw[b5];clear eo;obtain⟨f0,f1,f2,f3⟩:=ho;obtain⟨D1,a2⟩:∃D1,D1=H7++(if 0<o then[(((x.1,x.2.1,o):iK),false)] else[]):=⟨_,rfl⟩;repeat first|refine Β.sm 7 ?_|refine dz ?_|intro _|refine bK ?_
 refine Β.c7 (α:=Unit) (λ_=>True) (λ_=>[(0,.func (.yield i) #[] #[]),(1,ay bl),(2,ay bs),(5,ay bx),(6,K (j:Int)),(7,K o),(9,ae ad l.length c),(10,K l.length),(11,K (k:Int))]) (λ_=>[J8 D1.length,obj bl gw [ae ad l.length c],obj bs gw [ae K0 set.length sc],obj bx I5 [K x.1,K x.2.1,K x.2.2],τ aK 3 ad l,τ aK 3 K0 set]) ?_ ?_
 .by_cases h0:0<o
  .rw[Ω h0] at a2 A;have a5:=a7 H7 ((x.1,x.2.1,o),false) _ A;refine PJ ?_;intros;refine Y.cM (E.at (Φ:=J8 H7.length) (E.refl _)) ?_;((with_reducible apply Y.a8);refine Y.TG (C0.yield (a5) rfl rfl fT) ac ?_);rintro _ _⟨_,(⟨rfl,rfl⟩|⟨rfl,rfl⟩),hL⟩
   .simp only[aq,av] at hL;subst hL;refine PJ ?_;intros;refine⟨(),trivial,aG,?_⟩;rw[a2,aA,bh];exact E.refl _
   .simp only[aq,av] at hL;subst hL;refine PJ ?_;intros;exact KX.a8 aC (E.a8 (E.nil _)) (.inr ⟨H7.length,rfl⟩)
  .rw[Ο h0,aJ] at a2;refine PJ ?_;intros;refine⟨(),trivial,aG,?_⟩;rw[a2];exact E.refl _
 rintro _ _
 have c5:V=D1++(((x.1,x.2.1+o,q),true)::(QE (set.drop (j+1)) (RQ x set[(j:Int).toNat]!)++R)):=by
  rw[A,a2];simp only[aF,aq]
 have a5:=a7 D1 ((x.1,x.2.1+o,q),true) _ c5;repeat first|refine Β.sn 9 ?_|refine dz ?_|intro _|refine bK ?_
 refine Β.c7 (α:=Unit) (λ_=>True) (λ_=>[(0,.func (.yield i) #[] #[]),(1,ay bl),(2,ay bs),(5,ay bx),(6,K (j:Int)),(8,K q),(9,ae ad l.length c),(10,K l.length),(11,K (k:Int))]) (λ_=>[J8 D1.length,obj bl gw [ae ad l.length c],obj bs gw [ae K0 set.length sc],obj bx I5 [K x.1,K (x.2.1+o),K (x.2.2 - o)],τ aK 3 ad l,τ aK 3 K0 set]) ?_ ?_
 .rw[<-ei];refine PJ ?_;intros;exact⟨(),trivial,aG,by exact aj⟩
 rintro _ _;refine PJ ?_;intros;refine Y.cM (E.at (Φ:=J8 D1.length) (E.refl _)) ?_;((with_reducible apply Y.a8);refine Y.TG (C0.yield (a5) rfl rfl fT) ac ?_);rintro _ _⟨_,(⟨rfl,rfl⟩|⟨rfl,rfl⟩),hL⟩
 .simp only[aq,av] at hL;subst hL;refine PJ ?_;intros;refine⟨(RQ x set[(j:Int).toNat]!,j+1,D1++[((x.1,x.2.1+o,q),true)]),⟨e8,by dsimp only;omega,e1,by dsimp only;rw[c5];simp⟩,by dsimp only;omega,?_,?_⟩
  .dsimp only;rw[show(((j+1:Nat)):Int)=(j:Int)+1 by omega];exact aG
  .dsimp only;rw[aA,bh,e2];simp only[aK];exact aj
 .simp only[aq,av] at hL;subst hL;refine PJ ?_;intros;exact KX.a8 aC (E.a8 (E.nil _)) (.inr ⟨D1.length,rfl⟩)
