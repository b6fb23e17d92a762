/- Lemmas. -/
import Derived.Test.YtlgpgjdggilkgaaGreatDoorEtbo
set_option linter.all false
namespace Go.Proofs.YtlgpgjdggilkgaaGreatDoor
section
open Go.V
structure D3 (G:Int) (b:Nat) (b0:Int->Int->Int->Int) (R:List Int) (g0:Gh) (A9:Int) (iL:Int->Prop) (C1 C2:Int->Int->Prop) (p:Nat) (W:iK):Prop where
 ex:∃g,g.Α=g0.Α/\O0 G b b0 g R W/\PN g R G W<=p
 un:∀j:Int,0<=j/\j<G->∀A x,ζ (W.nf j).Φ A=some x->x.C6<=A9
 no:∀A,iL A->A9<W.E/\∀j:Int,0<=j/\j<G->∀x,ζ (W.nf j).Φ A=some x->x.F7=false
 c1:∀j A:Int,0<=j/\j<G->C1 j A->TF (W.nf j) W.Q A
 c2:∀j A:Int,0<=j/\j<G->C2 j A->Wd (W.nf j) W.Q A
section
variable {G:Int}{b:Nat}{b0:Int->Int->Int->Int}{R:List Int}{g0:Gh}{A9:Int}{iL:Int->Prop}{C1 C2:Int->Int->Prop}{p q:Nat}{W W' : iK}{i A:Int}{m:eU}{cN:List eU}
def D3.Nw(h:D3 G b b0 R g0 A9 iL C1 C2 p W):(W.E7.length:Int)=G/\1<=G/\G<=3:=by
 obtain⟨g,_,hP,_⟩:=h.ex;exact⟨hP.len,hP.Nw⟩
theorem D3.perm(h:D3 G b b0 R g0 A9 iL C1 C2 p W)(hn:W'.E7=W.E7)(ht:W'.E=W.E)(hm:W'.Q.Perm W.Q):D3 G b b0 R g0 A9 iL C1 C2 p W':=by
 obtain⟨g,e,hP,hp⟩:=h.ex;have e2:W'.nf=W.nf:=by unfold iK.nf iK.nd;rw[hn]
 refine⟨⟨g,e,hP.perm hn ht aj,by rw[IA hn hm];exact hp⟩,by rw[e2];exact h.un,by rw[e2,ht];exact h.no,λj A hj hc x O=>?_,λj A hj hc p hp o ho hs=>?_⟩
 .rw[e2] at O;obtain⟨q1,q2⟩:=h.c1 j A hj hc x O;exact⟨q1,λk hk=>(q2 k hk).imp_right λz=>z.mono aj⟩
 .rw[e2] at hp;exact(h.c2 j A hj hc p hp o ho hs).mono aj
theorem D3.mono(h:D3 G b b0 R g0 A9 iL C1 C2 p W)(B:p<=q):D3 G b b0 R g0 A9 iL C1 C2 q W:=by
 obtain⟨g,e,hP,hp⟩:=h.ex;exact⟨aj,h.un,h.no,h.c1,h.c2⟩
def D3.SO{D1 D2:Int->Int->Prop}(h:D3 G b b0 R g0 A9 iL C1 C2 p W)(K:∀j A:Int,0<=j/\j<G->D1 j A->TF (W.nf j) W.Q A)(T:∀j A:Int,0<=j/\j<G->D2 j A->Wd (W.nf j) W.Q A):D3 G b b0 R g0 A9 iL D1 D2 p W:=⟨h.ex,h.un,h.no,K,T⟩
theorem D3.hand(h:D3 G b b0 R g0 A9 iL C1 C2 (q+if m.to=m.Λ then 0 else 1) W)(hp:W.Q.Perm (m::cN)):D3 G b b0 R g0 A9 iL C1 C2 q (W.put m.to (be m.to m.Λ m.ct W.E (W.nd m.to).1 (W.nd m.to).2) cN):=by
 obtain⟨g,e,hP,hq⟩:=h.ex;obtain⟨ew,e',M,a2⟩:=hP.hand hp;have U:=hP.len;have hi:=(hP.room (hp.mem_iff.2 aA)).1;refine⟨aj,λj hj A x O=>?_,λA hF=>⟨(h.no A hF).1,λj hj x O=>?_⟩,λj A hj hc=>Js hP hp hj (h.c1 j A hj hc),λj A hj hc=>Jr hP hp hj (h.c2 j A hj hc)⟩
 .rw[jO D] at O;by_cases z:j=m.to
  .rw[z,ez] at O;obtain⟨x',B,e,_⟩:=vx _ _ O;rw[e];rw[<-hP.nf hi] at B;exact h.un _ hi A x' B
  .rw[fE _ z] at O;exact h.un j hj A x O
 .rw[jO D] at O;obtain⟨n1,n2⟩:=h.no A hF;by_cases z:j=m.to
  .rw[z,ez] at O;obtain⟨x',B,_,e⟩:=vx _ _ O;rw[<-hP.nf hi] at B;have:=h.un _ hi A x' B
   grind
  grind [fE]
theorem D3.a8(hi:0<=i/\i<G):Td (D3 G b b0 R g0 A9 iL C1 C2 p) i :=
 ⟨λW h=>by have:=h.Nw;omega,λW W' h hn ht _ hm=>h.perm hn ht hm,by grind [D3.hand]⟩
theorem D3.sh(h:D3 G b b0 R g0 A9 iL C1 C2 (q+1) W)(hp:W.Q.Perm (m::cN))(B:m.to≠m.Λ):D3 G b b0 R g0 A9 iL C1 C2 q (W.put m.to (dO m.to G m W.E (W.nd m.to).1 (W.nd m.to).2) cN):=by
 obtain⟨g,e,hP,hq⟩:=h.ex;have U:=hP.len;obtain⟨hi,hT,_⟩:=hP.room (hp.mem_iff.2 aA);have hk:=hT.kd;have K:=D3.hand (q:=q) (by rw[Ν B];exact h) hp;unfold dO;rw[Χ ⟨rfl,hT.Λ,Ne.symm B⟩];have ho:=nZ (i:=m.to) (Λ:=m.Λ) (m:=m.ct) (E:=W.E) (N:=(W.nd m.to).1) (S:=(W.nd m.to).2);generalize be m.to m.Λ m.ct W.E (W.nd m.to).1 (W.nd m.to).2=r at K ho ⊢;have T:=sW (D3.a8 hi) K (l:=r.1) (cN:=cN) List.perm_append_comm aj;rw[jN D,oP] at T;exact T
theorem MK{g ew : Gh}(h:ew.Α=g.Α)(G i A:Int):Ra ew G i A=Ra g G i A:=by unfold Ra cU;rw[h]
theorem MJ{g ew : Gh}(h:ew.Α=g.Α)(i A:Int):QV ew i A=QV g i A:=by unfold QV cU;rw[h]
theorem LK{E:Int}{g:Gh}{N:υ}{S:Ρ}(hg:Nz g)(h:Ni g i N S){x:K6}(O:ζ N.Φ A=some x):I5 g i ((cD i A x E).1,{ N with Φ:=cZ N.Φ A (cD i A x E).2 },S):=by
 have hG:=h.bg A x O
 have e1:(cD i A x E).2.Z=x.Z:=by
  unfold cD;split
  .rfl
  split
  .rfl
  .rfl
 refine I5.same hg (h.J1 (c:=N.μ) aj) ?_;unfold cD;split
 .exact im (λq=>hD (show(3:Int)=1 from q) ae) (by show ¬(3:Int)=5;decide)
 split
 .exact im (λq=>hD (show(3:Int)=1 from q) ae) (by show ¬(3:Int)=5;decide)
 .exact im (λ_=>hG) aj
theorem Ia{x:K6}{E:Int}:(cD i A x E).2.C6=x.C6:=by
 unfold cD;split
 .rfl
 split
 .rfl
 .rfl
theorem Kg{x:K6}{E:Int}(h:x.F7=false):(cD i A x E).2.F7=false:=by
 unfold cD;split
 .exact h
 split
 .rfl
 .exact h
theorem xI{x:K6}{E:Int}:∀y∈(cD i A x E).1,y.Λ=i/\0<=y.ct.Δ:=λy Y=>by
 unfold cD at Y;split at Y
 .obtain⟨k,_,_,rfl⟩:=ir Y;exact⟨rfl,by show(0:Int)<=3;decide⟩
 split at Y
 .obtain⟨k,_,_,rfl⟩:=ir Y;exact⟨rfl,by show(0:Int)<=3;decide⟩
 grind [ir]
theorem Ib{x:K6}{E:Int}{Q:List eU}(U:x.C6<E):(cD i A x E).2.dec=true/\∀k∈(cD i A x E).2.iM,k∈(cD i A x E).2.told\/U7 (Q++(cD i A x E).1) A k:=by
 have mem:∀{gs W:List Int} {ct:G3} {k:Int},k∈gs->k∉W->(⟨i,k,ct⟩:eU)∈ck i gs W ct:=by grind [ck]
 unfold cD;rw[Χ U];split
 .rename_i hd;refine⟨hd,λk hk=>?_⟩;by_cases z:k∈x.told
  .exact .inl z
  .exact .inr ⟨_,cw _ (mem hk z),rfl,.inl ⟨rfl,rfl⟩⟩
 exact⟨rfl,λk hk=>.inr ⟨_,cw _ (mem hk aj),rfl,.inl ⟨rfl,rfl⟩⟩⟩
def TF.later{N N' : υ}{Q M : List eU}(h:TF N Q A)(a2:Px N N')(hb:∀x',ζ N'.Φ A=some x'->∃x,ζ N.Φ A=some x)(hm:∀y∈Q,y∈M):TF N' M A:=λx' B=>by
 obtain⟨x,O⟩:=hb x' B;obtain⟨x2,r1,_,r3,r4,r5⟩:=a2.bg A x O;rw[B] at r1;obtain rfl:=Pr r1;obtain⟨q1,q2⟩:=h x O;refine⟨(r4 q1).1,λk hk=>?_⟩;rw[r3] at hk;exact(q2 k hk).imp (r5 k) λz=>z.mono hm
theorem D3.ZZ(h:D3 G b b0 R g0 A9 iL C1 C2 p W)(hi:0<=i/\i<G){x:K6}(O:ζ (W.nd i).1.Φ A=some x){late:Prop}(a5:late->A9<W.E):D3 G b b0 R g0 A9 iL (λj k=>C1 j k\/(late/\j=i/\k=A)) C2 (p+Ra g0 G i A) (W.put i ((cD i A x W.E).1,{ (W.nd i).1 with Φ:=cZ (W.nd i).1.Φ A (cD i A x W.E).2 },(W.nd i).2) W.Q):=by
 obtain⟨g,e,hP,hq⟩:=h.ex;have U:=hP.len;have hK:=hP.nd i hi;have hN:=hP.cv.cv.nd i hi;have en:=hP.nf hi;have hB:∀A x,ζ (W.nf i).Φ A=some x->g.Α A=some x.Z:=by rw[en];exact hN.bg
 have a4:ζ (W.nf i).Φ A=some x:=by rw[en];exact O
 have M:=Ki (E:=W.E) hP.ag hB hi a4;have a7:=Kh (R:=R) (E:=W.E) hP.ag hB hP.cv.hR hi a4;rw[en] at M a7;obtain⟨ew,e',a6⟩:=hP.put hi (cN:=W.Q) aj (LK (E:=W.E) hP.cv.cv.gh hN O) (M1.J1 (c:=(W.nd i).1.μ) hK.np) M (hK.hd.bg (μ:=(W.nd i).1.μ)) hK.U hK.tt (λa x ha=>hK.TE a x ha);have a2:=jO (W:=W) (i:=i) (r:=((cD i A x W.E).1,{ (W.nd i).1 with Φ:=cZ (W.nd i).1.Φ A (cD i A x W.E).2 },(W.nd i).2)) (cN:=W.Q) D;have a9:Px (W.nd i).1 { (W.nd i).1 with Φ:=cZ (W.nd i).1.Φ A (cD i A x W.E).2 }:=by rw[<-en] at M ⊢;exact M.le
 have B:∀k x',ζ (cZ (W.nd i).1.Φ A (cD i A x W.E).2) k=some x'->∃y,ζ (W.nd i).1.Φ k=some y/\x'.C6=y.C6/\(y.F7=false->x'.F7=false):=by grind [cF,Ia,Kg]
 refine⟨⟨ew,e'.trans e,a6,?_⟩,λj hj k y Y=>?_,λk hF=>⟨(h.no k hF).1,λj hj y Y=>?_⟩,λj k hj hc=>?_,λj k hj hc=>?_⟩
 .have q1:=vk (Μ:=0) (u:=Ra g G i A) (w:=0) (cN:=W.Q) (r:=((cD i A x W.E).1,{ (W.nd i).1 with Φ:=cZ (W.nd i).1.Φ A (cD i A x W.E).2 },(W.nd i).2)) (g:=g) (R:=R) hP.len hi rfl aj;grind [xn,MK]
 .rw[a2] at Y;by_cases z:j=i
  .rw[z,ez] at Y;obtain⟨y',r1,r2,_⟩:=B k y Y;rw[r2];exact h.un i hi k y' aj
  .rw[fE _ z] at Y;exact h.un j hj k y Y
 .rw[a2] at Y;by_cases z:j=i
  .rw[z,ez] at Y;obtain⟨y',r1,_,r2⟩:=B k y Y;exact r2 ((h.no k hF).2 i hi y' aj)
  .rw[fE _ z] at Y;exact(h.no k hF).2 j hj y Y
 .rw[a2]
  have keep:C1 j k->TF (Pq W.nf i { (W.nd i).1 with Φ:=cZ (W.nd i).1.Φ A (cD i A x W.E).2 } j) (W.Q++(cD i A x W.E).1) k:=λhc=>by
   by_cases z:j=i
   .rw[z,ez];rw[z] at hc;have q1:=h.c1 i k hi hc;rw[en] at q1;exact q1.later a9 aj aj
   .rw[fE _ z];exact(h.c1 j k hj hc).later (Px.refl _) aj aj
  rcases hc with hc|⟨hL,rfl,rfl⟩
  .exact keep hc
  .rw[ez];intro x' a3;have a3 : ζ (cZ (W.nd j).1.Φ k (cD j k x W.E).2) k=some x':=a3;rw[cF,Χ rfl] at a3;rw[<-Pr a3];have hu:=h.un j hj k x a4;exact Ib aj
 .rw[a2];have q1:=h.c2 j k hj hc;by_cases z:j=i
  .rw[z,ez];rw[z,en] at q1;exact λp hp o ho hs=>(q1 p hp o ho hs).mono λy Y=>cI _ Y
  .rw[fE _ z];exact λp hp o ho hs=>(q1 p hp o ho hs).mono λy Y=>cI _ Y
def D3.weak{D1 D2:Int->Int->Prop}(h:D3 G b b0 R g0 A9 iL C1 C2 p W)(K:∀j k,D1 j k->C1 j k)(T:∀j k,D2 j k->C2 j k):D3 G b b0 R g0 A9 iL D1 D2 p W:=h.SO (λj k hj hc=>h.c1 j k hj (K j k hc)) λj k hj hc=>h.c2 j k hj (T j k hc)
theorem Lw(h:D3 G b b0 R g0 A9 iL C1 C2 p W)(hi:0<=i/\i<G){late:Prop}(B:late->A9<W.E):D3 G b b0 R g0 A9 iL (λj k=>C1 j k\/(late/\j=i/\k=A)) C2 (p+Ra g0 G i A) (W.put i (Nh i W.E A (W.nd i).1 (W.nd i).2) W.Q):=by
 obtain⟨g,e,hP,hq⟩:=h.ex;have U:=hP.len;unfold Nh;cases O:ζ (W.nd i).1.Φ A with
 | none =>
  have K:D3 G b b0 R g0 A9 iL (λj k=>C1 j k\/(late/\j=i/\k=A)) C2 p W:=h.SO (λj k hj hc=>by
   rcases hc with hc|⟨_,rfl,rfl⟩
   .exact h.c1 j k hj hc
   .intro x M;rw[hP.nf hj,O] at M;cases M) h.c2
  exact Td.same (l:=[]) (D3.a8 hi) (K.mono D) aj
 | some x =>
  dsimp only;have K:=h.ZZ hi O B;have hf:=xI (i:=i) (A:=A) (x:=x) (E:=W.E);have T:=sW (D3.a8 hi) K (l:=(cD i A x W.E).1) (cN:=W.Q) List.perm_append_comm hf;rw[jN D,oP] at T;exact T
theorem LA{c:B0}{E:Int}{N:υ}{S:Ρ}(h:N0 i c E N S):(K8 i E A N S).2.2=S/\N0 i c E (K8 i E A N S).2.1 (K8 i E A N S).2.2/\(K8 i E A N S).2.1.U=N.U:=by
 unfold K8;cases hp:ζ N.Β A with
 | none=>grind
 | some p =>
  dsimp only;split
  .rename_i B;rw[HK p.Z S (h.fin A p hp B)];exact⟨rfl,h.K7 hp rfl (λq=>q) (λo ho=>(h.pt A p hp aj).2.1 o ho) h.ld aj (λ_=>rfl) λq=>h.fin A p hp q,rfl⟩
  grind
theorem MB{E:Int}{g:Gh}{N:υ}{S:Ρ}(q2:Nz g)(q3:Ni g i N S):I5 g i (K8 i E A N S):=by
 unfold K8;cases hp:ζ N.Β A with
 | none=>exact I5.same q2 q3 aj
 | some p =>
  dsimp only;split
  .have q:=DD q2 q3 hp (f:=B8 i A p.state p.Ι E) (λg S o=>Dd) p.state (Q:=[]) aj;grind
  grind [I5.same]
theorem JB{E:Int}{g:Gh}{N:υ}{S:Ρ}(h:(N.Β.map (·.1)).Nodup):M1 g R i N S (K8 i E A N S):=by
 unfold K8;cases hp:ζ N.Β A with
 | none=>exact M1.same h
 | some p =>
  dsimp only;split
  .refine M1.K7 h hp (ru (λo S=>?_) p.Z _);unfold B8;split
   .grind
   .exact nc
  .exact M1.same h
theorem Fs{E:Int}{N:υ}{S:Ρ}:(K8 i E A N S).2.1.Φ=N.Φ:=by
 grind [K8]
theorem Ly(h:D3 G b b0 R g0 A9 iL C1 C2 p W)(hi:0<=i/\i<G):D3 G b b0 R g0 A9 iL C1 (λj k=>C2 j k\/(j=i/\k=A)) (p+QV g0 i A) (W.put i (K8 i W.E A (W.nd i).1 (W.nd i).2) W.Q):=by
 obtain⟨g,e,hP,hq⟩:=h.ex;have U:=hP.len;have hK:=hP.nd i hi;have hN:=hP.cv.cv.nd i hi;have en:=hP.nf hi;have hr:=hP.Nw;have b6:=hP.cv.pn i hi;have b5:=uk g R i (W.nd i).1 (W.nd i).2;have hb:=hP.hb;have a3:=LB (A:=A) (E:=W.E) (S:=(W.nd i).2) hP.ag hP.gr hi;have b3:=Lz (A:=A) (R:=R) (E:=W.E) (S:=(W.nd i).2) hP.ag hP.cv.hR hi;have a2:=JC (A:=A) (E:=W.E) (nd:=W.nf) (S:=(W.nd i).2) (b0:=b0 i) (c:=I6) (g:=g) (G:=G) (i:=i) (by rw[en];exact hK.TE) hi D (by rw[en];exact hK.np) (by rw[en];exact hK.hd) (by rw[en];omega);rw[en] at a3 b3 a2;obtain⟨d1,d2,d3⟩:=LA (A:=A) hK.hd;obtain⟨ew,e',b2⟩:=hP.put hi (cN:=W.Q) aj (MB (A:=A) (E:=W.E) hP.cv.cv.gh hN) (JB hK.np) a3 d2 (by rw[d1,d3];exact hK.U) (by rw[d1];exact hK.tt) a2;have a4:=jO (W:=W) (i:=i) (r:=K8 i W.E A (W.nd i).1 (W.nd i).2) (cN:=W.Q) D;have a9:=Fs (i:=i) (A:=A) (E:=W.E) (N:=(W.nd i).1) (S:=(W.nd i).2);refine⟨⟨ew,e'.trans e,b2,?_⟩,λj hj k y Y=>?_,λk hF=>⟨(h.no k hF).1,λj hj y Y=>?_⟩,λj k hj hc=>?_,λj k hj hc=>?_⟩
 .have q1:=vk (Μ:=0) (u:=QV g i A) (w:=0) (cN:=W.Q) (r:=K8 i W.E A (W.nd i).1 (W.nd i).2) (g:=g) (R:=R) hP.len hi rfl (by rw[en];omega);grind [xn,MJ]
 .rw[a4] at Y;by_cases z:j=i
  .rw[z,ez,a9] at Y;exact h.un i hi k y aj
  .rw[fE _ z] at Y;exact h.un j hj k y Y
 .rw[a4] at Y;by_cases z:j=i
  .rw[z,ez,a9] at Y;exact(h.no k hF).2 i hi y aj
  .rw[fE _ z] at Y;exact(h.no k hF).2 j hj y Y
 .rw[a4];have q1:=h.c1 j k hj hc;by_cases z:j=i
  .rw[z,ez];rw[z,en] at q1;rw[<-en] at a3 ⊢;refine TF.later (by rw[en];exact q1) a3.le (λx' a7=>?_) λy Y=>cI _ Y;rw[en,a9] at a7;rw[en];exact⟨x',a7⟩
  .rw[fE _ z];exact q1.later (Px.refl _) (λx' a7=>⟨x',a7⟩) λy Y=>cI _ Y
 .rw[a4];by_cases z:j=i
  .rw[z,ez];rw[z] at hc;intro p' B o' a5 b1
   have M:C2 i k->ζ (W.nd i).1.Β k=some p'->U8 (W.Q++(K8 i W.E A (W.nd i).1 (W.nd i).2).1) k o'.ω:=λhc hp=>by
    have q1:=h.c2 i k hi hc;rw[en] at q1;exact(q1 p' hp o' a5 b1).mono aj
   have b4:=B;unfold K8 at B ⊢;cases hp:ζ (W.nd i).1.Β A with
   | none =>
    rw[hp] at B;have B : ζ (W.nd i).1.Β k=some p':=B;rcases hc with hc|⟨_,rfl⟩
    .unfold K8 at M;rw[hp] at M;exact M hc B
    grind
   | some p =>
    rw[hp] at B;have hT:=hP.ag.pt i hi A p aj;dsimp only at B ⊢;by_cases a6:p.state=1\/p.state=2
    .rw[Χ a6] at B ⊢;have B : ζ (cZ (W.nd i).1.Β A ⟨p.state,p.Ι,(xs (B8 i A p.state p.Ι W.E) p.Z (W.nd i).2).2.1⟩) k=some p':=B;rw[cF] at B;by_cases ek:k=A
     .rw[Χ ek] at B;rw[<-Pr B] at a5;exact⟨_,cw _ (yc p.Z (W.nd i).2 o' a5 b1),ek.symm,rfl,.inl rfl⟩
     .rw[Ν ek] at B;rcases hc with hc|⟨_,q⟩
      .unfold K8 at M;rw[hp] at M;dsimp only at M;rw[Χ a6] at M;exact M hc B
      omega
    .rw[Ν a6] at B ⊢;have B : ζ (W.nd i).1.Β k=some p':=B;rcases hc with hc|⟨_,rfl⟩
     .unfold K8 at M;rw[hp] at M;dsimp only at M;rw[Ν a6] at M;exact M hc B
     .rw[hp] at B;obtain rfl:=Pr B;have:=((hT.ow o' a5).s1 b1).1
      omega
  .rw[fE _ z];rcases hc with hc|⟨q,_⟩
   .exact λp hp o ho hs=>(h.c2 j k hj hc p hp o ho hs).mono λy Y=>cI _ Y
   omega
theorem Cr{r r2:L8}:(W.put i r W.Q).put i r2 (W.put i r W.Q).Q=W.put i (r.1++r2.1,r2.2) W.Q:=by
 grind [iK.put,List.set_set]
def aw(g:Gh)(G i A:Int):Nat:=Ra g G i A+QV g i A
def LD(h:D3 G b b0 R g0 A9 iL C1 C2 p W)(hi:0<=i/\i<G){late:Prop}(B:late->A9<W.E):D3 G b b0 R g0 A9 iL (λj k=>C1 j k\/(late/\j=i/\k=A)) (λj k=>C2 j k\/(j=i/\k=A)) (p+aw g0 G i A) (W.put i (Qi i W.E A (W.nd i).1 (W.nd i).2) W.Q):=by
 have U:=h.Nw;have K:=Lw (A:=A) h hi B;have T:=Ly (A:=A) K hi;rw[jN D,Cr] at T;have e:p+Ra g0 G i A+QV g0 i A=p+aw g0 G i A:=by unfold aw;omega
 rw[e] at T;exact T
theorem Db{late:Prop}(hi:0<=i/\i<G):∀(gR:List Int) (W:iK) (C1 C2:Int->Int->Prop) (p:Nat),D3 G b b0 R g0 A9 iL C1 C2 p W->(late->A9<W.E)->D3 G b b0 R g0 A9 iL (λj k=>C1 j k\/(late/\j=i/\k∈gR)) (λj k=>C2 j k\/(j=i/\k∈gR)) (p+(gR.map (aw g0 G i)).sum) (W.put i (bS (Qi i W.E) gR (W.nd i).1 (W.nd i).2) W.Q)
 | [],W,C1,C2,p,h,_=>by
  have q:=Td.same (l:=[]) (cN:=W.Q) (D3.a8 hi) h aj;exact q.weak aj aj
 | a::gR,W,C1,C2,p,h,X7=>by
  have U:=h.Nw;have K:=LD (A:=a) h hi X7;have T:=Db hi gR _ _ _ _ K X7;rw[jN D,Cr] at T;rw[aq,aS,<-dh]
  exact T.weak (λj k z=>by
   rcases z with z|⟨z1,z2,z3⟩
   .exact .inl (.inl z)
   .rcases Nj z3 with z3|z3
    .exact .inl (.inr ⟨z1,z2,z3⟩)
    .exact .inr ⟨z1,z2,z3⟩) λj k z=>by
   rcases z with z|⟨z2,z3⟩
   .exact .inl (.inl z)
   .rcases Nj z3 with z3|z3
    .exact .inl (.inr ⟨z2,z3⟩)
    .exact .inr ⟨z2,z3⟩
theorem Cm{f:Int->Nat}:∀{l R:List Int},l.Nodup->(∀x∈l,x∈R)->(l.map f).sum<=(R.map f).sum
 | [],_,_,_=>aC _
 | a::l,R,hn,hs=>by
  obtain⟨K,T⟩:=List.nodup_cons.1 hn;have hp:=List.perm_cons_erase (hs a aA);have ih:=Cm (f:=f) (l:=l) (R:=R.erase a) T aj;grind
theorem IR{N:υ}(K:(N.Φ.map (·.1)).Nodup)(T:(N.Β.map (·.1)).Nodup):(ed N).Nodup:=by
 unfold ed;refine(jj _).nodup_iff.2 (List.nodup_append.2 ⟨K,T.filter _,λa ha c hc e=>?_⟩);obtain⟨_,q⟩:=List.mem_filter.1 hc;obtain⟨x,O,rfl⟩:=H9 ha;have q:(ζ N.Φ c).isNone=true:=by simpa using q
 have z:ζ N.Φ x.1=some x.2:=fj K O;grind
def D3.Ut(h:D3 G b b0 R g0 A9 iL C1 C2 p W)(hi:0<=i/\i<G)(a2:((W.nd i).1.Φ.map (·.1)).Nodup){late:Prop}(M:late->A9<W.E):D3 G b b0 R g0 A9 iL (λj k=>C1 j k\/(late/\j=i)) (λj k=>C2 j k\/j=i) (p+(R.map (aw g0 G i)).sum) (W.put i (dv i W.E (W.nd i).1 (W.nd i).2) W.Q):=by
 obtain⟨g,e,hP,hq⟩:=h.ex;have hK:=hP.nd i hi;have hN:=hP.cv.cv.nd i hi;have en:=hP.nf hi
 have K:D3 G b b0 R g0 A9 iL (λj k=>C1 j k\/(late/\j=i/\k∉ed (W.nd i).1)) (λj k=>C2 j k\/(j=i/\k∉ed (W.nd i).1)) p W:=h.SO (λj k hj hc=>by
  rcases hc with hc|⟨_,rfl,hk⟩
  .exact h.c1 j k hj hc
  .intro x O;rw[en] at O;exact hD (WQ.2 (.inl (List.mem_map.2 ⟨_,bQ O,rfl⟩))) hk) λj k hj hc=>by
  rcases hc with hc|⟨rfl,hk⟩
  .exact h.c2 j k hj hc
  .intro x O;rw[en] at O;exact hD (WQ.2 (.inr (List.mem_map.2 ⟨_,bQ O,rfl⟩))) hk
 have T:=Db hi (ed (W.nd i).1) W _ _ _ K M
 have hs:=Cm (f:=aw g0 G i) (l:=ed (W.nd i).1) (R:=R) (IR a2 hK.np) λA B=>by
  rcases WQ.1 B with B|B
  .obtain⟨x,O,rfl⟩:=H9 B;exact hP.cv.hR _ _ (hN.bg _ _ (fj a2 (k:=x.1) (a:=x.2) O))
  .obtain⟨x,O,rfl⟩:=H9 B;obtain⟨ls,r,_⟩:=(hP.ag.pt i hi x.1 x.2 (by rw[en];exact fj hK.np (k:=x.1) (a:=x.2) O)).G5;exact hP.cv.hR _ _ r
 refine(T.mono (Nat.add_le_add_left hs p)).weak (λj k z=>?_) λj k z=>?_
 .rcases z with z|⟨z1,z2⟩
  .exact .inl (.inl z)
  .by_cases hk:k∈ed (W.nd i).1
   .exact .inr ⟨z1,z2,hk⟩
   .exact .inl (.inr ⟨z1,z2,hk⟩)
 .rcases z with z|z2
  .exact .inl (.inl z)
  .by_cases hk:k∈ed (W.nd i).1
   .exact .inr ⟨z2,hk⟩
   .exact .inl (.inr ⟨z2,hk⟩)
end
end
section
open Go.V
def Cx(i:Int):∀(ls:List lu) (k:Int),(B3 i k ls).length+(ls.filter λl=>decide (l.d≠i)).length=ls.length
 | [],_=>rfl
 | l::ls,k=>by
  have ih:=Cx i ls (k+1);have e1:B3 i k (l::ls)=if l.d=i then⟨l,k,0,[]⟩::B3 i (k+1) ls else B3 i (k+1) ls:=rfl;rw[e1];by_cases h:l.d=i
  .rw[Χ h,List.filter_cons_of_neg (by simpa using h),aK,aK];omega
  .rw[Ν h,dE (by simpa using h),aK,aK];omega
theorem vm{i:Int}{ls:List lu}{n:Nat}:OK i (bX ls n)+(B3 i 0 ls).length<=ls.length:=by
 have K:=Cx i ls 0
 have T:OK i (bX ls n)<=((ls.filter λl=>decide (l.d≠i)).map (·.d)).length:=by
  unfold OK;refine jo ((ju ls n).filter _) λk hk=>?_;obtain⟨q1,q2⟩:=List.mem_filter.1 hk;obtain⟨_,l,U,rfl⟩:=Vs.1 q1;exact aj
 grind
theorem EC{i G:Int}{ls:List lu}(hi:0<=i/\i<G)(h3:G<=3):OK i (bX ls G.toNat)<=2:=by
 have h:=jo (l:=i::((bX ls G.toNat).filter λk=>decide (k≠i))) (m:=(List.range G.toNat).map λ (k:Nat)=>(k:Int)) (by grind [ju]) λk hk=>by
  have hr:0<=k/\k<G:=by
   rcases Nj hk with rfl|hk
   .exact hi
   .exact oa D (List.mem_filter.1 hk).1
  exact List.mem_map.2 ⟨k.toNat,List.mem_range.2 D,D⟩
 grind [OK]
theorem jW{n:Nat}{f:Nat->Nat}(h:∀j,j<n->f j=0):((List.range n).map f).sum=0:=by
 induction n with
 | zero=>rfl
 | succ n ih =>
  grind [dc]
theorem kK{n:Nat}{f f' : Nat->Nat}:((List.range n).map λj=>f j+f' j).sum=((List.range n).map f).sum+((List.range n).map f').sum:=by
 induction n with
 | zero=>rfl
 | succ n ih =>
  grind [dc]
theorem qD{n c:Nat}{f:Nat->Nat}:((List.range n).map λj=>c*f j).sum=c*((List.range n).map f).sum:=by
 induction n with
 | zero=>rfl
 | succ n ih =>
  grind [dc]
theorem sO{n:Nat}{f f' : Nat->Nat}(h:∀j,j<n->f' j<=f j):((List.range n).map f').sum<=((List.range n).map f).sum:=kH aj
theorem nO{n:Nat}{i:Int}{c:Nat}:((List.range n).map λj:Nat=>if i=(j:Int) then c else 0).sum<=c:=by
 induction n with
 | zero=>grind
 | succ n ih =>
  grind [dc,jW]
theorem rB{G:Int}:∀(ls:List lu) (k:Int),(∀l∈ls,0<=l.d/\l.d<G)->((List.range G.toNat).map λj:Nat=>(B3 (j:Int) k ls).length).sum<=ls.length
 | [],k,_=>by
  grind [jW,B3]
 | l::ls,k,h=>by
  have ih:=rB ls (k+1) λx O=>h x (az _ O);have e:∀j:Nat,(B3 (j:Int) k (l::ls)).length=(if l.d=(j:Int) then 1 else 0)+(B3 (j:Int) (k+1) ls).length:=by grind [B3]
  have q:=nO (n:=G.toNat) (i:=l.d) (c:=1);have e2:((List.range G.toNat).map λj:Nat=>(B3 (j:Int) k (l::ls)).length)=(List.range G.toNat).map λj:Nat=>(if l.d=(j:Int) then 1 else 0)+(B3 (j:Int) (k+1) ls).length:=aV λj _=>e j;rw[e2,kK,aK];omega
theorem Z0{g:Gh}{G i A:Int}(hR:Qk G g):aw g G i A<=8:=by
 unfold aw Ra QV cU;cases hG:g.Α A with
 | none =>
  have e:(bX ((none:Option (List lu)).getD []) G.toNat)=bX [] G.toNat:=rfl;have h:=vm (i:=i) (ls:=[]) (n:=G.toNat);grind
 | some ls =>
  have h:=vm (i:=i) (ls:=ls) (n:=G.toNat);have h4:=(hR A ls hG).1;grind
def MZ{g:Gh}{G A:Int}(hR:Qk G g)(h3:G<=3)(hc:∀ls,g.Α A=some ls->0<=bZ A/\bZ A<G):((List.range G.toNat).map λj:Nat=>aw g G (j:Int) A).sum<=12:=by
 unfold aw;rw[kK];cases hG:g.Α A with
 | none =>
  have e1:((List.range G.toNat).map λj:Nat=>Ra g G (j:Int) A).sum=0:=jW λj _=>by
   unfold Ra cU;rw[hG];have h:=vm (i:=(j:Int)) (ls:=[]) (n:=G.toNat);show(if bZ A=(j:Int) then 2*OK j (bX [] G.toNat) else 0)=0;have:([]:List lu).length=0:=rfl
   split<;>omega
  have e2:((List.range G.toNat).map λj:Nat=>QV g (j:Int) A).sum=0:=jW λj _=>by
   unfold QV cU;rw[hG];rfl
  omega
 | some ls =>
  have U:cU g A=ls:=by unfold cU;rw[hG];rfl
  obtain⟨h4,M⟩:=hR A ls hG
  have e1:((List.range G.toNat).map λj:Nat=>Ra g G (j:Int) A).sum<=4:=by
   refine aO (sO (f:=λj:Nat=>if bZ A=(j:Int) then 4 else 0) λj hj=>?_) nO;unfold Ra;rw[U];have:=EC (i:=(j:Int)) (ls:=ls) (D:0<=(j:Int)/\(j:Int)<G) h3
   split<;>omega
  have e2:((List.range G.toNat).map λj:Nat=>QV g (j:Int) A).sum<=8:=by
   have e3:((List.range G.toNat).map λj:Nat=>QV g (j:Int) A)=(List.range G.toNat).map λj:Nat=>2*(B3 (j:Int) 0 ls).length:=aV λj _=>by unfold QV;rw[U]
   rw[e3,qD];have:=rB (G:=G) ls 0 λl B=>(M l B).d
   omega
  omega
section
variable {G:Int}{b:Nat}{b0:Int->Int->Int->Int}{R:List Int}{g g0:Gh}{A9:Int}{p:Nat}{W:iK}{i A u:Int}{ls:List lu}
def Ji{N:υ}{S:Ρ}(hN:Ni g i N S)(B:g.Α A=none){a x:Int}:Pz (g.G5 A ls) i N a x=Pz g i N a x:=by
 unfold Pz;congr 2;refine aV λk hk=>?_;obtain⟨l,fl,q,_,_⟩:=hN.ls.rc k hk;unfold dR;rw[q,kJ B q]
def Pj(N:υ)(G A u:Int)(ls:List lu):υ:={ N with μ:=N.μ+1,Φ:=cZ N.Φ A ⟨ls,bX ls G.toNat,u,[],[],false,false⟩ }
def iO(G i A:Int)(ls:List lu):List eU:=ck i (bX ls G.toNat) [] ⟨1,A,0,false,ls,[]⟩
theorem Lr{N:υ}(h:ζ N.Φ A=none):Px N (Pj N G A u ls):=Px.J1 aj
theorem O0.Φ(h:O0 G b b0 g R W)(hi:0<=i/\i<G)(M:g.Α A=none)(b4:bZ A=i)(a3:ls.length<=4/\∀l∈ls,RJ G l)(b8:ls≠[])(hb:b+48<=1900):∃ew,ew.Α=(g.G5 A ls).Α/\O0 G (b+48) b0 ew (A::R) (W.put i (iO G i A ls,Pj (W.nd i).1 G A u ls,(W.nd i).2) W.Q):=by
 have U:=h.len;have hC:=h.cv.cv;have hK:=h.nd i hi;have a4:(g.G5 A ls).Α A=some ls:=Χ rfl
 have ha:NN ls<=12:=by
  have q:∀l:List lu,(∀x∈l,x.am.length<=3)->NN l<=3*l.length:=λl=>by
   induction l with
   | nil=>exact λ_=>aC _
   | cons x l ih =>
    grind [NN]
  have:=q ls λx O=>(a3.2 x O).len
  have:=a3.1
  omega
 have a6:OU G (b+48) (g.G5 A ls) (A::R) W:=by
  refine⟨hC.G5 ls M,λj b7 q=>?_,λx O=>?_,λj hj=>?_⟩
  .have e:(g.G5 A ls).Α j=if j=A then some ls else g.Α j:=rfl;rw[e] at q;by_cases z:j=A
   .grind
   .rw[Ν z] at q;exact az _ (h.cv.hR j b7 q)
  .rcases Nj O with rfl|O
   .grind
   .obtain⟨l,q⟩:=h.cv.Rn x O;exact⟨l,rx M q⟩
  .have q1:=LT (ls:=ls) h.cv.Rn M j (W.nd j).1 (W.nd j).2;have q2:=h.cv.pn j hj;omega
 have b3:Ni (g.G5 A ls) i (Pj (W.nd i).1 G A u ls) (W.nd i).2:=(a6.cv.nd i hi).J1 (by exact a4);obtain⟨ew,e',hS⟩:=a6.send U hi (r:=(iO G i A ls,Pj (W.nd i).1 G A u ls,(W.nd i).2)) (I5.same a6.cv.gh b3 (im (λ_=>a4) aj)) (M1.J1 hK.np);have b1:0<=i/\i<W.E7.length:=D
 have a2:ζ (W.nf i).Φ A=none:=by
  cases q:ζ (W.nf i).Φ A with
  | none=>rfl
  | some x =>
   rw[h.nf hi] at q;have:=(hC.nd i hi).bg A x q
   grind
 have b6:Px (W.nf i) (Pj (W.nd i).1 G A u ls):=by rw[<-h.nf hi];exact Lr a2
 have B:=kG b6;have a5:R9 g ew:=⟨λj l q=>by rw[e'];exact(R9.G5 M).Α j l q,λk l q=>(lj e' k).trans ((R9.G5 M).Υ k l q)⟩;have b2:ew.Α A=some ls:=by rw[e'];exact a4
 have b5:ζ (Pj (W.nd i).1 G A u ls).Φ A=some ⟨ls,bX ls G.toNat,u,[],[],false,false⟩:=by
  show ζ (cZ (W.nd i).1.Φ A _) A=_;rw[cF,Χ rfl]
 have a7:(([]:List Int)).length<(bX ls G.toNat).length:=by
  cases ls with
  | nil=>grind
  | cons l ls =>
   have hs:=(a3.2 l aj).d;exact List.length_pos_of_mem (Vs.2 ⟨by show 0<=l.d/\l.d<(G.toNat:Int);omega,l,aA,rfl⟩)
 refine⟨ew,e',h.Nw,by rw[vh];exact U,h.E,hb,hS,λj l q=>h.gr.G5 a3 j l (by rw[<-e'];exact q),?_,λj hj=>?_⟩
 .rw[jO b1];refine⟨λj l q=>?_,λj hj k x q=>?_,λj hj k x q=>?_,λj hj k q=>?_,λy Y=>?_⟩
  .rw[e'] at q;have e:(g.G5 A ls).Α j=if j=A then some ls else g.Α j:=rfl;rw[e] at q;by_cases z:j=A
   .grind [ez]
   .rw[Ν z] at q;obtain⟨q1,x,q2,q3⟩:=h.ag.rg j l q;obtain⟨x',r1,r2,_⟩:=(B _).bg j x q2;grind
  .by_cases z:j=i
   .rw[z,ez] at q;have q:ζ (cZ (W.nd i).1.Φ A ⟨ls,bX ls G.toNat,u,[],[],false,false⟩) k=some x:=q;rw[cF] at q;by_cases z2:k=A
    .rw[Χ z2] at q;rw[<-Pr q,z,z2];exact⟨b4,rfl,dq,aj,aj,aj,λ_=>a7,λ_=>rfl⟩
    .rw[Ν z2,<-h.nf hi] at q;rw[z];exact⟨(h.ag.bg i hi k x q).1,(h.ag.bg i hi k x q).2.mono B⟩
   .rw[fE _ z] at q;exact⟨(h.ag.bg j hj k x q).1,(h.ag.bg j hj k x q).2.mono B⟩
  .have q2:ζ (W.nf j).Β k=some x:=by
    by_cases z:j=i
    .rw[z,ez] at q;rw[z,h.nf hi];exact q
    .rw[fE _ z] at q;exact q
   exact(h.ag.pt j hj k x q2).mono a5 B
  .have q2:k∈(W.nf j).sh:=by
    by_cases z:j=i
    .rw[z,ez] at q;rw[z,h.nf hi];exact q
    .rw[fE _ z] at q;exact q
   exact(h.ag.rv j hj k q2).mono a5 B
  .rcases J8 Y with Y|Y
   .exact(h.ag.Q y Y).mono a5 B
   .obtain⟨k,hk,_,rfl⟩:=ir Y;exact⟨hi,oa D hk,aj,aj,aj,aj,aj,aj,aj⟩
 .rw[uj b1 D]
  have a9:∀j:Int,0<=j/\j<G->Tc (b0 j) ew j (W.nd j).1 (W.nd j).2:=λj hj a x ha=>by
   rw[zK e',Ji (hC.nd j hj) M];exact(h.nd j hj).TE a x ha
  by_cases z:j=i
  .rw[Χ z,z];exact⟨hK.np,hK.hd.bg,hK.U,hK.tt,λa x ha=>a9 i hi a x ha⟩
  .rw[Ν z];have k:=h.nd j hj;exact⟨k.np,k.hd,k.U,k.tt,a9 j hj⟩
def Gb(h:O0 G b b0 g R W)(hi:0<=i/\i<G)(M:g.Α A=none)(a6:bZ A=i)(a4:ls.length<=4/\∀l∈ls,RJ G l):PN (g.G5 A ls) (A::R) G (W.put i (iO G i A ls,Pj (W.nd i).1 G A u ls,(W.nd i).2) W.Q)<=PN g R G W+16:=by
 have U:=h.len;have hr:=h.Nw;have a7:0<=i/\i<W.E7.length:=D;have b3:(W.put i (iO G i A ls,Pj (W.nd i).1 G A u ls,(W.nd i).2) W.Q).nf=Pq W.nf i (Pj (W.nd i).1 G A u ls):=jO a7;have ho:=EC (ls:=ls) hi hr.2
 have K:wS (W.put i (iO G i A ls,Pj (W.nd i).1 G A u ls,(W.nd i).2) W.Q).Q<=wS W.Q+4:=by
  show wS (W.Q++iO G i A ls)<=_;rw[tS];have q:wS (iO G i A ls)<=2*OK i (bX ls G.toNat):=pi _;omega
 have a2:cU (g.G5 A ls) A=ls:=by
  unfold cU;rw[show(g.G5 A ls).Α A=some ls from Χ rfl];rfl
 have T:∀j:Nat,j<G.toNat->N8 (g.G5 A ls) (A::R) (j:Int) (Pq W.nf i (Pj (W.nd i).1 G A u ls) j)<=((if i=(j:Int) then 4 else 0)+2*(B3 (j:Int) 0 ls).length)+N8 g R (j:Int) (W.nf j):=λj hj=>by
  have a3:0<=(j:Int)/\(j:Int)<G:=D;have e:N8 (g.G5 A ls) (A::R) (j:Int) (Pq W.nf i (Pj (W.nd i).1 G A u ls) j)=N7 (g.G5 A ls) (j:Int) (Pq W.nf i (Pj (W.nd i).1 G A u ls) j) A+(R.map (N7 (g.G5 A ls) (j:Int) (Pq W.nf i (Pj (W.nd i).1 G A u ls) j))).sum:=by unfold N8;rw[aq,aS]
  rw[e]
  have a5:(Pq W.nf i (Pj (W.nd i).1 G A u ls) j).Β=(W.nf j).Β:=by
   by_cases z:(j:Int)=i
   .rw[z,ez,h.nf hi];rfl
   .rw[fE _ z]
  refine cH ?_ (kH λk hk=>?_)
  .unfold N7;refine cH ?_ ?_
   .unfold Sb;by_cases z:(j:Int)=i
    .rw[Χ z.symm,z,ez];show(match ζ (cZ (W.nd i).1.Φ A ⟨ls,bX ls G.toNat,u,[],[],false,false⟩) A with|some x=>if x.dec=true then 0 else 2*OK i x.iM|none=>0)<=4;rw[cF,Χ rfl];show(if(false:Bool)=true then 0 else 2*OK i (bX ls G.toNat))<=4;rw[Ν ae];omega
    .rw[Ν λq=>z q.symm,fE _ z];cases q:ζ (W.nf j).Φ A with
     | none=>exact an _
     | some x=>exact hD ((h.ag.bg j a3 A x q).1.symm.trans a6) z
   .unfold P8;rw[a5];cases q:ζ (W.nf j).Β A with
    | none =>
     dsimp only;rw[a2];exact rn _ _
    | some x =>
     obtain⟨l,r,_⟩:=(h.ag.pt j a3 A x q).G5;rw[M] at r;cases r
  .obtain⟨lk,B⟩:=h.cv.Rn k hk;have b2:k≠A:=λz=>by rw[z,M] at B;cases B
   have a9:cU (g.G5 A ls) k=cU g k:=by
    unfold cU;rw[rx M B,B]
   unfold N7;refine cH ?_ ?_
   .unfold Sb;by_cases z:(j:Int)=i
    .rw[z,ez,h.nf hi];show(match ζ (cZ (W.nd i).1.Φ A ⟨ls,bX ls G.toNat,u,[],[],false,false⟩) k with|some x=>if x.dec=true then 0 else 2*OK i x.iM|none=>0)<=_;rw[cF,Ν b2];exact an _
    .rw[fE _ z];exact an _
   .unfold P8;rw[a5,a9];exact an _
 have h3:=sO T;rw[kK,kK,qD] at h3;have h4:=nO (n:=G.toNat) (i:=i) (c:=4);have h5:=rB (G:=G) ls 0 λl b1=>(a4.2 l b1).d;have h6:=a4.1;unfold PN;rw[b3];omega
end
end
section
open Go.V
abbrev Oh:Int->Int->Prop:=λ_ _=>False
abbrev U9:Int->Prop:=λ_=>False
def QU.E{d:Int}{c:B0}{t t' : Int}{S:Ρ}(h:QU d c t S)(ht:t<=t'):QU d c t' S:=⟨h.rep,h.π,Int.le_trans h.now ht⟩
def N0.E{d:Int}{c:B0}{t t' : Int}{N:υ}{S:Ρ}(h:N0 d c t N S)(ht:t<=t'):N0 d c t' N S:=⟨h.ld.E ht,h.U,h.pt,h.ap,h.new,h.fin⟩
section
variable {G:Int}{b:Nat}{b0:Int->Int->Int->Int}{R:List Int}{g0:Gh}{A9:Int}{iL:Int->Prop}{C1 C2:Int->Int->Prop}{p q:Nat}{W W' : iK}{i A u:Int}{m:eU}{cN:List eU}{ls:List lu}
theorem D3.time(h:D3 G b b0 R g0 A9 iL C1 C2 p W){t:Int}(K:W.E<=t)(T:t<=1099511627776):D3 G b b0 R g0 A9 iL C1 C2 p { W with E:=t }:=by
 obtain⟨g,e,hP,hq⟩:=h.ex;refine⟨⟨g,e,⟨hP.Nw,hP.len,⟨by have:=hP.E;grind,T⟩,hP.hb,hP.cv.drop rfl λy Y=>Y,hP.gr,hP.ag,λj hj=>?_⟩,hq⟩,h.un,λA hF=>⟨by have:=(h.no A hF).1;grind,(h.no A hF).2⟩,h.c1,h.c2⟩;have k:=hP.nd j hj;exact⟨k.np,k.hd.E K,k.U,k.tt,k.TE⟩
theorem D3.lose(h:D3 G b b0 R g0 A9 iL Oh Oh p W)(hp:W.Q.Perm (m::cN)):D3 G b b0 R g0 A9 iL Oh Oh p { W with Q:=cN }:=by
 obtain⟨g,e,hP,hq⟩:=h.ex;refine⟨⟨g,e,hP.perm rfl rfl aj,?_⟩,h.un,h.no,aj,aj⟩;have e2:=va hp;rw[mT] at e2;have e3:PN g R G { W with Q:=cN }=wS cN+((List.range G.toNat).map λj:Nat=>N8 g R (j:Int) (W.nf j)).sum:=rfl;grind [PN]
theorem D3.again(h:D3 G b b0 R g0 A9 iL Oh Oh p W)(hm:m∈W.Q):D3 G b b0 R g0 A9 iL Oh Oh (p+2) { W with Q:=m::W.Q }:=by
 obtain⟨g,e,hP,hq⟩:=h.ex;refine⟨⟨g,e,hP.perm rfl rfl λy Y=>?_,?_⟩,h.un,h.no,aj,aj⟩
 .grind
 .have e3:PN g R G { W with Q:=m::W.Q }=wS (m::W.Q)+((List.range G.toNat).map λj:Nat=>N8 g R (j:Int) (W.nf j)).sum:=rfl;grind [PN,mT,Di,Rq]
theorem D3.begin(h:D3 G b b0 R g0 A9 U9 Oh Oh p W)(hi:0<=i/\i<G)(a4:g0.Α A=none)(B:bZ A=i)(a2:ls.length<=4/\∀l∈ls,RJ G l)(a5:ls≠[])(hb:b+48<=1900):∃g1:Gh,(∀j,g1.Α j=if j=A then some ls else g0.Α j)/\D3 G (b+48) b0 (A::R) g1 (if A9<=u then u else A9) U9 Oh Oh (p+16) (W.put i (L9 i W.E (iO G i A ls) (Pj (W.nd i).1 G A u ls) (W.nd i).2) W.Q):=by
 obtain⟨g,e,hP,hq⟩:=h.ex;have U:=hP.len;have hg:g.Α A=none:=by rw[e];exact a4
 obtain⟨ew,e',a3⟩:=hP.Φ (u:=u) hi hg B a2 a5 hb;have a6:=Gb (u:=u) hP hi hg B a2
 have hG:∀j,(g.G5 A ls).Α j=if j=A then some ls else g0.Α j:=λj=>by
  show(if j=A then some ls else g.Α j)=_;rw[e]
 refine⟨g.G5 A ls,hG,?_⟩;have M:0<=i/\i<W.E7.length:=D
 have K:D3 G (b+48) b0 (A::R) (g.G5 A ls) (if A9<=u then u else A9) U9 Oh Oh (p+16) (W.put i (iO G i A ls,Pj (W.nd i).1 G A u ls,(W.nd i).2) W.Q):=by
  refine⟨⟨ew,e',a3,by rw[xn e'];omega⟩,λj hj k x q=>?_,aj,aj,aj⟩;have hU:∀x:K6,x.C6<=A9->x.C6<=if A9<=u then u else A9:=D;rw[jO M] at q;by_cases z:j=i
  .rw[z,ez] at q;have q:ζ (cZ (W.nd i).1.Φ A ⟨ls,bX ls G.toNat,u,[],[],false,false⟩) k=some x:=q;rw[cF] at q;by_cases z2:k=A
   .grind
   .rw[Ν z2,<-hP.nf hi] at q;exact hU x (h.un i hi k x q)
  .rw[fE _ z] at q;exact hU x (h.un j hj k x q)
 have T:=sW (D3.a8 hi) K (l:=iO G i A ls) (cN:=W.Q) List.perm_append_comm λy Y=>by
  obtain⟨k,_,_,rfl⟩:=ir Y;grind
 rw[jN M,oP] at T;exact T
theorem Dc{E:Int}{N:υ}{S:Ρ}:∀y∈(dv i E N S).1,(y.Λ=i/\y.to≠i)\/y.ct.Δ=5:=by
 unfold dv;refine ob _ _ _ λA _ N S y Y=>?_;rcases J8 Y with Y|Y
 .grind [Nh,vH,xI]
 .generalize (Nh i E A N S).2.1=N1 at Y;generalize (Nh i E A N S).2.2=S1 at Y;unfold K8 at Y;cases hp:ζ N1.Β A with
  | none=>grind
  | some p =>
   rw[hp] at Y;dsimp only at Y;split at Y
   .obtain⟨o,_,rfl,_⟩:=(oK (f:=B8 i A p.state p.Ι E) (λo S=>HL o S) p.Z S1).Q y Y;exact .inr rfl
   .cases Y
theorem An(i G:Int)(ls:List lu)(t u:Int)(N:υ)(S:Ρ):fL i G ls t u N S=((0,1),[],N,S)\/fL i G ls t u N S=((0,14),[],N,S)\/(jG G S.π.B5.length ls/\t<=u/\u<=1099511627776/\fL i G ls t u N S=((i*4294967296+N.μ,0),L9 i t (iO G i (i*4294967296+N.μ) ls) (Pj N G (i*4294967296+N.μ) u ls) S)):=by
 unfold fL;split
 .exact .inl rfl
 .rename_i K;split
  .grind
  .rename_i h3;exact .inr (.inr ⟨Classical.byContradiction aj,D,D,rfl⟩)
end
structure QW (G:Int) (b:Nat) (b0:Int->Int->Int->Int) (A9:Int) (p:Nat) (ls:List (List lu)) (W:iK):Prop where
 ex:∃g,D3 G b b0 W.gR.reverse g A9 U9 Oh Oh p W/\Sr G g.Α W/\ls.length=W.gR.length/\∀j,j<ls.length->g.Α W.gR[j]! = some ls[j]!
 lk:∀y∈W.Q,y.to≠y.Λ
 nd:W.gR.Nodup
section
variable {G:Int}{b:Nat}{b0:Int->Int->Int->Int}{A9:Int}{p:Nat}{ls:List (List lu)}{W:iK}{c bW ε ac:Nat}{o:Pf}
theorem Sr.of{Α:Int->Option (List lu)}{W W' : iK}(h:Sr G Α W)(U:(W.E7.length:Int)=G){i:Int}(hi:0<=i/\i<G){r:L8}(hc:r.2.1.μ=(W.nd i).1.μ){cN:List eU}(hW:W'.E7=(W.put i r cN).E7):Sr G Α W':=h.put U hi (x:=(r.2.1,r.2.2)) aj hW
def QW.mono{p' : Nat}(h:QW G b b0 A9 p ls W)(hp:p<=p'):QW G b b0 A9 p' ls W:=by
 obtain⟨g,K,T⟩:=h.ex;exact⟨⟨g,K.mono hp,T⟩,h.lk,h.nd⟩
theorem Gc{l:List eU}{k:Nat}(h:k<l.length):l.Perm (l[k]!::(l.take k++l.drop (k+1))):=by
 grind [bY,cK]
def RJ.of{l:lu}{n:Int}(h:Ur G l)(hg:UZ G n l):RJ G l :=
 ⟨Md h hg.fr,hg.d,hg.ts,λp hp=>(h.am p hp).2.2,h.len.2⟩
theorem QW.Z1(h:QW G b b0 A9 p ls W){m:eU}(hm:m∈W.Q):1<=W.gR.length:=by
 obtain⟨g,K,_⟩:=h.ex;obtain⟨ew,e,hP,_⟩:=K.ex;obtain⟨l,q,_⟩:=(hP.ag.Q m hm).G5;have hin:=hP.cv.hR _ _ q;grind
theorem QW.out(h:QW G b b0 A9 p ls W){W' : iK}{q:Nat}{i:Int}(hi:0<=i/\i<G){r:L8}{cN:List eU}(M:r.2.1.μ=(W.nd i).1.μ)(hn:W'.E7=(W.put i r cN).E7)(a2:W'.gR=W.gR)(a5:W'.Q=cN++r.1)(B:∀y∈cN,y∈W.Q)(hS:∀g,D3 G b b0 W.gR.reverse g A9 U9 Oh Oh p W->D3 G b b0 W.gR.reverse g A9 U9 Oh Oh q W')(a3:∀y∈r.1,(y.Λ=i/\y.to≠i)\/y.ct.Δ=5):QW G b b0 A9 q ls W':=by
 obtain⟨g,K,T,h3,h4⟩:=h.ex;have U:=K.Nw.1;have a4:=hS g K;refine⟨⟨g,aj,T.of U hi M hn,aj,aj⟩,λy Y=>?_,by rw[a2];exact h.nd⟩;obtain⟨ew,_,hP,_⟩:=a4.ex;have hT:=hP.ag.Q y Y;rw[a5] at Y;rcases J8 Y with Y|Y
 .exact h.lk y (B y Y)
 .rcases a3 y Y with⟨q1,q2⟩|q
  .omega
  .obtain⟨⟨l,_,_,_,l4,_⟩,_⟩:=hT.tr q;omega
theorem sM{i E:Int}{x:eU}{N:υ}{S:Ρ}:∀y∈(dO i G x E N S).1,y.Λ=i/\y.to≠i:=by
 unfold dO;split
 .exact vH λm hm=>(nZ m hm).1
 grind
theorem Mu(h:F8 G c bW ε ac W)(ho:TZ G o)(h5:¬o.Δ=5)(hc:c<64)(a7:bW+24<=2000)(hT:W.E+7<=1099511627776)(hS:QW G b b0 A9 p ls W)(hb:b+48<=1900):(o.Δ=0/\(QM G o W).1.2=0/\QW G (b+48) b0 (if A9<=W.E+o.wait then W.E+o.wait else A9) (p+16) (ls++[o.Z.map (·.m)]) (QM G o W).2)\/(¬(o.Δ=0/\(QM G o W).1.2=0)/\QW G b b0 A9 (p+8*W.gR.length) ls (QM G o W).2):=by
 have hN:=h.at ho.d;have U:=h.len;have c5:=h.E;have c4:=hN.μ;have b6:=hN.a.OP.μ;have hw:=ho.wait;unfold QM;split
 .rename_i hk;rcases An o.d G (o.Z.map (·.m)) W.E (W.E+o.wait) (W.nd o.d).1 (W.nd o.d).2 with e|e|⟨q1,q2,q3,e⟩
  .rw[e];dsimp only;rw[Ν (show ¬(1:Int)=0 by decide)];exact .inr ⟨λq=>D,hS.out (r:=([],(W.nd o.d).1,(W.nd o.d).2)) (cN:=W.Q) ho.d rfl rfl rfl rfl aj (λg hg=>(Td.same (l:=[]) (D3.a8 ho.d) hg aj).mono D) jz⟩
  .rw[e];dsimp only;rw[Ν (show ¬(14:Int)=0 by decide)];exact .inr ⟨λq=>D,hS.out (r:=([],(W.nd o.d).1,(W.nd o.d).2)) (cN:=W.Q) ho.d rfl rfl rfl rfl aj (λg hg=>(Td.same (l:=[]) (D3.a8 ho.d) hg aj).mono D) jz⟩
  .have ha:=sX ho.lg ho.len;have hr:=qc (ls:=o.Z.map (·.m)) (E:=W.E) (C6:=W.E+o.wait) ho.d h.Nw.2 hN.a D hN.B5 ha h.E.1 hN.bd a7;rw[e] at hr ⊢;dsimp only at hr ⊢;rw[Χ rfl];refine .inl ⟨hk,rfl,?_⟩;obtain⟨g,K,T,h3,h4⟩:=hS.ex
   have b7:(L9 o.d W.E (iO G o.d (o.d*4294967296+(W.nd o.d).1.μ) (o.Z.map (·.m))) (Pj (W.nd o.d).1 G (o.d*4294967296+(W.nd o.d).1.μ) (W.E+o.wait) (o.Z.map (·.m))) (W.nd o.d).2).2.1.μ=(W.nd o.d).1.μ+1:=by
    rcases hr with⟨_,q⟩|⟨_,q⟩
    .omega
    .exact q.μ
   have b9:g.Α (o.d*4294967296+(W.nd o.d).1.μ)=none:=by
    cases hg:g.Α (o.d*4294967296+(W.nd o.d).1.μ) with
    | none=>rfl
    | some l =>
     obtain⟨i,c',⟨r1,r2⟩,r3,r4⟩:=T _ l hg;have c3:=(h.at r1).μ;grind
   have b8:bZ (o.d*4294967296+(W.nd o.d).1.μ)=o.d:=Ai aj
   have c1:(o.Z.map (·.m)).length<=4/\∀l∈o.Z.map (·.m),RJ G l:=by
    refine⟨by rw[al];exact ho.len,λl b2=>?_⟩;obtain⟨x,O,rfl⟩:=H9 b2;exact RJ.of (ho.lg x O) (q1.2 _ b2)
   obtain⟨g1,eG,b5⟩:=K.begin (u:=W.E+o.wait) ho.d b9 b8 c1 (λz=>by have:=q1.1.1;grind) hb
   have a5:o.d*4294967296+(W.nd o.d).1.μ∉W.gR:=λq=>by
    obtain⟨ew,e',hP,_⟩:=K.ex;obtain⟨l,r⟩:=hP.cv.Rn _ (List.mem_reverse.2 q);grind
   refine⟨⟨g1,?_,?_,?_,λj hj=>?_⟩,λy Y=>?_,?_⟩
   .rw[List.reverse_append];exact b5.perm rfl rfl (List.Perm.refl _)
   .intro A l q;rw[eG] at q;by_cases z:A=o.d*4294967296+(W.nd o.d).1.μ
    .refine⟨o.d,(W.nd o.d).1.μ,⟨ho.d,z⟩,b6,?_⟩;have e2:(W.put o.d (L9 o.d W.E (iO G o.d (o.d*4294967296+(W.nd o.d).1.μ) (o.Z.map (·.m))) (Pj (W.nd o.d).1 G (o.d*4294967296+(W.nd o.d).1.μ) (W.E+o.wait) (o.Z.map (·.m))) (W.nd o.d).2) W.Q).nd o.d=_:=jN (i:=o.d) (by have:=ho.d;omega)
     have e3:∀W2:iK,W2.E7=(W.put o.d (L9 o.d W.E (iO G o.d (o.d*4294967296+(W.nd o.d).1.μ) (o.Z.map (·.m))) (Pj (W.nd o.d).1 G (o.d*4294967296+(W.nd o.d).1.μ) (W.E+o.wait) (o.Z.map (·.m))) (W.nd o.d).2) W.Q).E7->(W.nd o.d).1.μ<(W2.nd o.d).1.μ:=λW2 q=>by
      have e4:W2.nd o.d=(W.put o.d (L9 o.d W.E (iO G o.d (o.d*4294967296+(W.nd o.d).1.μ) (o.Z.map (·.m))) (Pj (W.nd o.d).1 G (o.d*4294967296+(W.nd o.d).1.μ) (W.E+o.wait) (o.Z.map (·.m))) (W.nd o.d).2) W.Q).nd o.d:=congrArg (λl:List (υ×Ρ)=>l[o.d.toNat]!) q;grind
     exact e3 _ rfl
    .rw[Ν z] at q;exact T.put U ho.d (x:=((L9 o.d W.E (iO G o.d (o.d*4294967296+(W.nd o.d).1.μ) (o.Z.map (·.m))) (Pj (W.nd o.d).1 G (o.d*4294967296+(W.nd o.d).1.μ) (W.E+o.wait) (o.Z.map (·.m))) (W.nd o.d).2).2.1,(L9 o.d W.E (iO G o.d (o.d*4294967296+(W.nd o.d).1.μ) (o.Z.map (·.m))) (Pj (W.nd o.d).1 G (o.d*4294967296+(W.nd o.d).1.μ) (W.E+o.wait) (o.Z.map (·.m))) (W.nd o.d).2).2.2)) aj rfl A l q
   .grind
   .show g1.Α (W.gR++[_])[j]! = some (ls++[o.Z.map (·.m)])[j]!;rw[ay,aX] at hj;rw[eG];by_cases z:j<ls.length
    .grind
    grind
   .have Y:y∈W.Q++(L9 o.d W.E (iO G o.d (o.d*4294967296+(W.nd o.d).1.μ) (o.Z.map (·.m))) (Pj (W.nd o.d).1 G (o.d*4294967296+(W.nd o.d).1.μ) (W.E+o.wait) (o.Z.map (·.m))) (W.nd o.d).2).1:=Y;rcases J8 Y with Y|Y
    .exact hS.lk y Y
    .obtain⟨r1,r2⟩:=vH (λm hm=>by obtain⟨k,_,_,rfl⟩:=ir hm;rfl) y Y;omega
   .exact List.nodup_append.2 ⟨hS.nd,List.nodup_cons.2 ⟨aG,dq⟩,λa ha c hc e=>a5 (by rw[F6 hc] at e;rw[<-e];exact ha)⟩
 rename_i a4;split
 .rename_i c0;have hr:=lq (E:=W.E+o.wait) ho.d h.Nw.2 hN.a hN.bd D;have c6:=ho.Ut c0;refine .inr ⟨λq=>a4 q.1,hS.out (r:=dv o.d (W.E+o.wait) (W.nd o.d).1 (W.nd o.d).2) (cN:=W.Q) ho.d hr.μ rfl rfl rfl aj (λg hg=>?_) Dc⟩;have K:=hg.time (t:=W.E+o.wait) D D;have T:=K.Ut ho.d (late:=False) hN.a.OP.nb aj
  have h3:((W.gR.reverse).map (aw g G o.d)).sum<=8*W.gR.length:=by
   obtain⟨ew,e,hP,_⟩:=hg.ex;have hR:Qk G g:=λA l q=>hP.gr A l (by rw[e];exact q);have q:=jJ (f:=aw g G o.d) (C:=8) (l:=W.gR.reverse) λA _=>Z0 hR;rw[List.length_reverse] at q;omega
  exact(T.mono D).weak aj aj
 by_cases b4:W.Q.length=0
 .rw[Χ b4];exact .inr ⟨λq=>a4 q.1,hS.mono D⟩
 .rw[Ν b4]
  have b3:(o.n % W.Q.length).toNat<W.Q.length:=by
   have:=dp o.n (D:(0:Int)<W.Q.length)
   omega
  have a3:=bA b3;have O:=h.Q _ a3;have B:=Gc b3;have c2:=hS.Z1 a3;have b1:=hS.lk _ a3;refine .inr ⟨λq=>a4 q.1,?_⟩;generalize W.Q[(o.n % W.Q.length).toNat]! = m at *;generalize W.Q.take (o.n % W.Q.length).toNat++W.Q.drop ((o.n % W.Q.length).toNat+1)=cN at *;have M:∀y∈cN,y∈W.Q:=aj;have a6:=h.at O.x.to;have hr:=oN (E:=W.E) O.x.to a6.a O a6.bd a7;dsimp only;by_cases a9:o.Δ≠3
  .rw[Χ a9];by_cases a2:o.Δ≠2/\0<=m.to/\m.to<G
   .rw[Χ a2];exact hS.out (r:=dO m.to G m W.E (W.nd m.to).1 (W.nd m.to).2) (cN:=cN) O.x.to hr.μ rfl rfl rfl M (λg hg=>((hg.mono (Nat.le_succ p)).sh B b1).mono (Nat.le_add_right _ _)) λy Y=>.inl (sM y Y)
   .rw[Ν a2];obtain⟨g,K,T,h3,h4⟩:=hS.ex;exact⟨⟨g,(K.lose B).mono D,T.same rfl,h3,h4⟩,λy Y=>hS.lk y (M y Y),hS.nd⟩
  .rw[Ν a9];have a2:o.Δ≠2/\0<=m.to/\m.to<G:=⟨D,O.x.to⟩;rw[Χ a2];exact hS.out (r:=dO m.to G m W.E (W.nd m.to).1 (W.nd m.to).2) (cN:=W.Q) O.x.to hr.μ rfl rfl rfl aj (λg hg=>(D3.sh (hg.again a3) aj b1).mono D) λy Y=>.inl (sM y Y)
