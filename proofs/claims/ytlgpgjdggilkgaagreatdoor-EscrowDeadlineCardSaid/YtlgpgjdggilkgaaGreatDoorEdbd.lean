/- Lemmas. -/
import Derived.Test.YtlgpgjdggilkgaaGreatDoorEdbc
set_option linter.all false
set_option maxHeartbeats 8000000
namespace Go.Proofs.YtlgpgjdggilkgaaGreatDoor
section
open Go.V
def bT{α:Type}(f:α->ω->Τ->L6):List α->ω->Τ->L6
 | [],N,S=>([],N,S)
 | m::l,N,S=>((f m N S).1++(bT f l (f m N S).2.1 (f m N S).2.2).1,(bT f l (f m N S).2.1 (f m N S).2.2).2.1,(bT f l (f m N S).2.1 (f m N S).2.2).2.2)
theorem uQ{α:Type}(f:α->ω->Τ->L6)(m:α):∀(l:List α) (N:ω) (S:Τ),bT f (l++[m]) N S=((bT f l N S).1++(f m (bT f l N S).2.1 (bT f l N S).2.2).1,(f m (bT f l N S).2.1 (bT f l N S).2.2).2.1,(f m (bT f l N S).2.1 (bT f l N S).2.2).2.2)
 | [],N,S=>by grind [bT]
 | x::l,N,S=>by
  rw[aq];simp only[bT];rw[uQ f m l];simp only[aF]
theorem pP{α:Type}[Inhabited α](f:α->ω->Τ->L6)(l:List α)(N:ω)(S:Τ){i:Nat}(h:i<l.length):bT f (l.take (i+1)) N S=((bT f (l.take i) N S).1++(f l[i]! (bT f (l.take i) N S).2.1 (bT f (l.take i) N S).2.2).1,(f l[i]! (bT f (l.take i) N S).2.1 (bT f (l.take i) N S).2.2).2.1,(f l[i]! (bT f (l.take i) N S).2.1 (bT f (l.take i) N S).2.2).2.2):=by
 grind [aB,uQ]
noncomputable def bH(d B:Int):Nat->fK->ω->Τ->L6
 | 0,_,N,S=>([],N,S)
 | Ξ+1,m,N,S=>if m.to≠d then([m],N,S) else bT (bH d B Ξ) (aX d m.Ν m.ct B N S).1 (aX d m.Ν m.ct B N S).2.1 (aX d m.Ν m.ct B N S).2.2
def PT(k:Int):Nat:=if k<=2 then 3300 else if k=3 then 33 else 1
theorem vO(k:Int):1<=PT k:=by
 grind [PT]
theorem tH{k j:Int}(h:k<j):PT j<=PT (k+1):=by
 grind [PT]
theorem qR{υ:B4}{d E0 B:Int}{m:G4}{N:ω}{S:Τ}(hN:Nn υ d N S):(aX d E0 m B N S).1.length*PT (m.Ζ+1)<=PT m.Ζ:=by
 have tl:∀(gs:List Int) (ct:G4),gs.length<=100->(ck d gs [] ct).length<=100:=by grind [kQ]
 unfold aX;split
 .rename_i h;rw[h]
  have:(eM d m B N S).1.length=1:=by
   unfold eM;split
   .rfl
   .split<;>rfl
  rw[this];decide
 split
 .rename_i h;rw[h]
  have:(eu d E0 m B N S).1.length<=100:=by
   unfold eu;cases T:ε N.Ψ m.r with
   | none=>grind
   | some x =>
    have M:=hN.Ot _ (bR T);grind
  grind [PT]
 split
 .rename_i h;rw[h]
  have:(dq d m B N S).1.length<=33:=by
   unfold dq;cases T:ε N.Γ m.r with
   | none=>grind
   | some p =>
    have hp:=(hN.pts _ (bR T)).Α;grind [oX]
  grind [PT]
 split
 .show 0*_<=_;omega
 split
 .grind [dS,PT]
 split
 .show 0*_<=_;omega
 grind
structure QV (d:Int) (Ξ:Nat) (m:fK):Prop where
 ct:OL m.ct
 pos:1<=Ξ
 sh:m.to=d->7<=m.ct.Ζ+Ξ
def cost(d:Int)(m:fK):Nat:=if m.to=d then 2*Nu m.ct.Α else 0
structure Out (d:Int) (m:fK):Prop where
 ct:OL m.ct
 to:m.to≠d
def Ry.Wn{d kd:Int}{Ξ:Nat}{y:fK}(h:Ry d kd y)(hd:7<=kd+(Ξ+1:Nat)):QV d Ξ y/\cost d y=0:=by
 have I:=h.Ζ;have Q:=h.le;refine⟨⟨h.ct,D,D⟩,?_⟩;unfold cost;split
 .rename_i q;rw[h.sh q];rfl
 .rfl
theorem rK{υ:B4}{d:Int}{f:fK->ω->Τ->L6}{b C:Nat}(P:fK->Prop)(hf:∀m N S,P m->Nn υ d N S->ey S+F0 N<=b->Nn υ d (f m N S).2.1 (f m N S).2.2/\ey (f m N S).2.2+F0 (f m N S).2.1<=b/\(∀y∈(f m N S).1,Out d y)/\(f m N S).1.length<=C) :
  ∀(l:List fK) (N:ω) (S:Τ),(∀m∈l,P m)->Nn υ d N S->ey S+F0 N<=b->Nn υ d (bT f l N S).2.1 (bT f l N S).2.2/\ey (bT f l N S).2.2+F0 (bT f l N S).2.1<=b/\(∀y∈(bT f l N S).1,Out d y)/\(bT f l N S).1.length<=l.length*C
 | [],N,S,_,hN,hb=>⟨hN,hb,λy U=>iJ U aH,by show 0<=_;omega⟩
 | m::l,N,S,hP,hN,hb=>by
  obtain⟨I,Q,h3,h4⟩:=hf m N S ah hN hb;obtain⟨i1,i2,i3,i4⟩:=rK P hf l _ _ ah I Q;simp only[bT];refine⟨i1,i2,λy U=>?_,?_⟩
  .grind
  .rw[aA,aL,dX];omega
theorem pB{υ:B4}{d B:Int}{b:Nat}(A:b<=2000):∀(Ξ:Nat) (m:fK) (N:ω) (S:Τ),QV d Ξ m->Nn υ d N S->ey S+F0 N+cost d m<=b->Nn υ d (bH d B Ξ m N S).2.1 (bH d B Ξ m N S).2.2/\ey (bH d B Ξ m N S).2.2+F0 (bH d B Ξ m N S).2.1<=b/\(∀y∈(bH d B Ξ m N S).1,Out d y)/\(bH d B Ξ m N S).1.length<=PT m.ct.Ζ
 | 0,m,N,S,hm,_,_=>iJ hm.pos ac
 | Ξ+1,m,N,S,hm,hN,hb=>by
  unfold bH;by_cases ht:m.to=d
  .rw[Ο D];have hc:cost d m=2*Nu m.ct.Α:=Ω ht;rw[hc] at hb;obtain⟨I,Q,h3⟩:=th (E0:=m.Ν) (B:=B) hN hm.ct hb A;have T:=qR (E0:=m.Ν) (B:=B) (m:=m.ct) hN;have ho:=hm.sh ht
   obtain⟨i1,i2,i3,i4⟩:=rK (C:=PT (m.ct.Ζ+1)) (λy=>Ry d m.ct.Ζ y) (λy N' S' U J a2=>by
    obtain⟨p1,p2⟩:=U.Wn (Ξ:=Ξ) D;obtain⟨q1,q2,q3,q4⟩:=pB (B:=B) A Ξ y N' S' p1 J D;exact⟨q1,q2,q3,aO q4 (tH U.Ζ)⟩) _ _ _ h3 I Q
   grind
  .rw[Ω ht];refine⟨hN,ah,λy U=>?_,vO _⟩;obtain rfl:=GO U;exact⟨hm.ct,ht⟩
def tB(f:fK->ω->Τ->L6):∀(l:List fK) (N:ω) (S:Τ) (i:Nat),(bT f (l.take i) N S).1.length<=(bT f l N S).1.length
 | [],N,S,i=>by rw[List.take_nil];exact ax _
 | m::l,N,S,0=>aD _
 | m::l,N,S,i+1=>by
  have:=tB f l (f m N S).2.1 (f m N S).2.2 i
  rw[List.take_succ_cons];simp only[bT,aA];omega
def re(k:Int):PT k<=3300:=by
 unfold PT;split
 .exact ax _
 .split<;>decide
def Q9(bn br bt bp nb:Nat)(B:Int)(N2:OA)(rl N3:Nat)(L:Ι):Ι:=obj bn 62 [ay nb]::obj br 40 [ae N2 rl N3]::obj bt C3 [K B]::obj bp 248 [.func (.func 136) #[] #[ay bn,ay br,ay bt,ay bp]]::L
attribute [local irreducible] Β Y GP δ vi GF GE Z Ef C0 E CB GB V.Enters
abbrev Be:=Ys [.ev 6]
def VG{φ ψ:Prop}(k:ψ)(h:Hid ψ->φ:=by intro k;(repeat (first|refine ab ?_|intro B8|refine Β.dr 32 1 Be ?_));(repeat revert B8);exact Hid.out k):φ:=h ⟨k⟩
def wo(nb lb:Nat)(d F:Int)(υ:B4)(b:Nat)(b9:b<=2000)(B:Int)(bn br bt bp:Nat):∀(Ξ:Nat) (L:Ι) (n:G2) (S:Τ) (x:N7) (N2:OA) (N3:Nat) (rs:List N7),QV d Ξ x.m->Nn υ d n.m S->ey S+F0 n.m+cost d x.m<=b->rs.length+(bH d B Ξ x.m n.m S).1.length<=1000000 ->
  Υ Λ 136 #[bC (be x),ay bn,ay br,ay bt,ay bp] (Q9 bn br bt bp nb B N2 rs.length N3 (μ be 3 B2 N2 N3 rs::η gO rs::gO x::fh nb lb d F n (aT lb S::L)))
   (λ_ Ε=>∃b2 a5 b6 n',b6.map (·.m)=rs.map (·.m)++(bH d B Ξ x.m n.m S).1/\n'.m=(bH d B Ξ x.m n.m S).2.1/\Ε = Q9 bn br bt bp nb B b2 b6.length a5 (μ be 3 B2 b2 a5 b6::η gO b6::fh nb lb d F n' (aT lb (bH d B Ξ x.m n.m S).2.2::L)))
 | 0,L,n,S,x,N2,N3,rs,hm,_,_,_=>iJ hm.pos ac
 | Ξ+1,L,n,S,x,N2,N3,rs,hm,hN,hb,hlen=>by
  refine Υ.bd ?_;simp only[Q9,fh,hl];by_cases ht:x.m.to=d
  case neg =>
   have hr:bH d B (Ξ+1) x.m n.m S=([x.m],n.m,S):=Ω ht;rw[hr] at hlen ⊢;have c4:rs.length+1<=1000000:=hlen;refine VG ?_;intros;refine Y.ef (Ef.a8 (Η:=be) (e:=x) rfl rfl rfl rfl rfl aY (ec _) D D) ac ?_;rintro _ _⟨c6,b8,rfl,rfl⟩;refine VG ?_;intros;refine KX.a8 aC ?_ ⟨c6,b8,rs++[x],n,by rw[aQ];rfl,rfl,rfl⟩;simp only[Q9,fh,hl];refine(E.at (Φ:=gO x) (E.d7 (f:=gO) fj)).trans ?_;refine(E.at (Φ:=η gO [x]) (E.refl _)).trans ?_;refine(E.at (Φ:=η gO rs) (E.refl _)).trans ?_;refine(E.c9 (f:=gO) fj).trans ?_;exact aj
  have hr:bH d B (Ξ+1) x.m n.m S=bT (bH d B Ξ) (aX d x.m.Ν x.m.ct B n.m S).1 (aX d x.m.Ν x.m.ct B n.m S).2.1 (aX d x.m.Ν x.m.ct B n.m S).2.2:=Ο (λq=>q ht);rw[hr] at hlen ⊢;have hc:cost d x.m=2*Nu x.m.ct.Α:=Ω ht;rw[hc] at hb;obtain⟨g1,g2,g3⟩:=th (E0:=x.m.Ν) (B:=B) hN hm.ct hb b9;have e4:=hm.sh ht;have e3:(aX d x.m.Ν x.m.ct B n.m S).1.length<=3300:=aO (Nat.le_mul_of_pos_right _ (vO (x.m.ct.Ζ+1))) (aO (qR (E0:=x.m.Ν) (B:=B) (m:=x.m.ct) hN) (re _))
  have a7:=rK (υ:=υ) (d:=d) (f:=bH d B Ξ) (b:=b) (C:=PT (x.m.ct.Ζ+1)) (λy=>Ry d x.m.ct.Ζ y) (λy N' S' U d2 d3=>by
   obtain⟨p1,p2⟩:=U.Wn (Ξ:=Ξ) D;obtain⟨q1,q2,q3,q4⟩:=pB (B:=B) b9 Ξ y N' S' p1 d2 (by rw[p2];exact d3);exact⟨q1,q2,q3,aO q4 (tH U.Ζ)⟩)
  refine VG ?_;intros;rename_i b5;refine Y.cM (Ε:=gO x::fh nb lb d F n (aT lb S::(obj bn 62 [ay nb]::obj br 40 [ae N2 rs.length N3]::obj bt C3 [K B]::obj bp 248 [.func (.func 136) #[] #[ay bn,ay br,ay bt,ay bp]]::μ be 3 B2 N2 N3 rs::η gO rs::L))) (by simp only[fh,hl];exact aj) ?_;refine Y.ca (si nb lb d F n S υ x hm.ct hN D B) ?_;generalize aX d x.m.Ν x.m.ct B n.m S=H at *;rintro _ _⟨b4,a2,O,n1,rfl,c2,d5,rfl⟩;refine VG ?_;intros;refine Β.loop (α:=Nat×G2×OA×Nat×List N7) (λg=>g.1<=O.length/\g.2.1.m=(bT (bH d B Ξ) (H.1.take g.1) H.2.1 H.2.2).2.1/\g.2.2.2.2.map (·.m)=rs.map (·.m)++(bT (bH d B Ξ) (H.1.take g.1) H.2.1 H.2.2).1) (λg=>[(4,ay bp),(22,ae b4 O.length a2),(23,K (O.length:Int)),(24,K (g.1:Int))]) (λg=>obj bn 62 [ay nb]::obj br 40 [ae g.2.2.1 g.2.2.2.2.length g.2.2.2.1]::obj bt C3 [K B]::obj bp 248 [.func (.func 136) #[] #[ay bn,ay br,ay bt,ay bp]]::μ be 3 B2 g.2.2.1 g.2.2.2.1 g.2.2.2.2::η gO g.2.2.2.2::μ be 3 B2 b4 a2 O::η gO O::fh nb lb d F g.2.1 (aT lb (bT (bH d B Ξ) (H.1.take g.1) H.2.1 H.2.2).2.2::L)) (λg=>O.length - g.1) (0,n1,N2,N3,rs) ⟨aD _,by rw[bA];exact d5,by rw[bA];exact(aJ _).symm⟩ aG ?_ ?_
  .dsimp only;rw[bA];simp only[fh,hl,bT];exact aj
  rintro⟨i,n2,a3,A,a6⟩ ⟨hi,a4,J⟩;dsimp only at hi a4 J ⊢;have e2:H.1.length=O.length:=by rw[<-c2,ak]
  by_cases c1:i<O.length
  case neg =>
   have d6:H.1.take i=H.1:=aN D;rw[d6] at a4 J ⊢;refine VG ?_;intros;refine KX.c8 aC ?_ ⟨a3,A,a6,n2,J,a4,rfl⟩;simp only[fh,hl];exact aj
  have d4:(i:Int).toNat=i:=D;have a9:O[i]!∈O:=by rw[E7 c1];exact cY c1
  have d0:H.1[i]! = O[i]!.m:=by rw[<-c2];exact eZ (f:=λx:N7=>x.m) c1
  have d1:O[i]!.m∈H.1:=by rw[<-c2];exact O6 a9
  obtain⟨p1,p2⟩:=(g3 _ d1).Wn (Ξ:=Ξ) D;obtain⟨f1,f2,f3,f4⟩:=a7 (H.1.take i) H.2.1 H.2.2 (λy U=>g3 y (cI U)) g1 g2;have b1:=pP (bH d B Ξ) H.1 H.2.1 H.2.2 (i:=i) D;rw[d0] at b1;have c0:=tB (bH d B Ξ) H.1 H.2.1 H.2.2 (i+1)
  have c4:a6.length+(bH d B Ξ O[i]!.m n2.m (bT (bH d B Ξ) (H.1.take i) H.2.1 H.2.2).2.2).1.length<=1000000:=by
   have e1:=congrArg List.length J;rw[ak,aA,ak] at e1;rw[b1] at c0;dsimp only at c0;rw[aA] at c0;rw[a4];omega
  refine Β.cM (E.at (Φ:=η gO O) (E.d8 (f:=gO) a9)) ?_;refine VG ?_;intros;rename_i b7;rw[d4];refine Y.cM (Ε:=Q9 bn br bt bp nb B a3 a6.length A (μ be 3 B2 a3 A a6::η gO a6::gO O[i]!::fh nb lb d F n2 (aT lb (bT (bH d B Ξ) (H.1.take i) H.2.1 H.2.2).2.2::(μ be 3 B2 b4 a2 O::η gO O::L)))) (by simp only[Q9,fh,hl];exact aj) ?_;refine Y.ef (Ef.c7 (first:=[]) (cap:=[ay bn,ay br,ay bt,ay bp]) (vs:=[bC (be O[i]!)]) (wo nb lb d F υ b b9 B bn br bt bp Ξ (μ be 3 B2 b4 a2 O::η gO O::L) n2 (bT (bH d B Ξ) (H.1.take i) H.2.1 H.2.2).2.2 O[i]! a3 A a6 p1 (by rw[a4];exact f1) (by rw[p2,a4];exact f2) c4) rfl rfl) ac ?_;rintro _ _⟨c3,b3,e0,n3,b0,c5,rfl⟩;rw[a4] at b0 c5;simp only[Q9];refine VG ?_;intros;refine⟨(i+1,n3,c3,b3,e0),⟨by dsimp only;omega,by dsimp only;rw[c5,b1],by dsimp only;rw[b0,J,b1,aF]⟩,by dsimp only;omega,?_,?_⟩
  .dsimp only;rw[bJ i];exact aG
  .dsimp only;rw[b1,a4];simp only[fh,hl];exact aj
end
section
open Go.V
def gy(d:Int)(l:List fK):Nat:=(l.map (cost d)).sum
def Fe(d:Int)(l:List fK):∀i,gy d (l.take i)<=gy d l:=λi=>by
 have h:=congrArg (λl:List fK=>(l.map (cost d)).sum) (cL i l);simp only[aQ,dV] at h;unfold gy;omega
def Ff(d:Int)(l:List fK){i:Nat}(h:i<l.length):gy d (l.take (i+1))=gy d (l.take i)+cost d l[i]!:=by
 unfold gy;rw[aB h,aQ,dV,E7 h];simp only[al,bu,aR,List.sum_nil,dw]
def nm{υ:B4}{d B:Int}{Ξ:Nat}:∀(l:List fK) (N:ω) (S:Τ) (b:Nat),b<=2000->(∀m∈l,QV d Ξ m)->Nn υ d N S->ey S+F0 N+gy d l<=b->Nn υ d (bT (bH d B Ξ) l N S).2.1 (bT (bH d B Ξ) l N S).2.2/\ey (bT (bH d B Ξ) l N S).2.2+F0 (bT (bH d B Ξ) l N S).2.1<=b/\(∀y∈(bT (bH d B Ξ) l N S).1,Out d y)/\(bT (bH d B Ξ) l N S).1.length<=(l.map λm=>PT m.ct.Ζ).sum
 | [],N,S,b,_,_,hN,hb=>⟨hN,by have:gy d []=0:=rfl;show ey S+F0 N<=b;omega,λy U=>iJ U aH,ax _⟩
 | m::l,N,S,b,Zl,hP,hN,hb=>by
  have e:gy d (m::l)=cost d m+gy d l:=by unfold gy;rw[al,aR]
  rw[e] at hb;obtain⟨I,Q,h3,h4⟩:=pB (B:=B) (b:=ey S+F0 N+cost d m) D Ξ m N S (hP m au) hN (ax _);obtain⟨i1,i2,i3,i4⟩:=nm (B:=B) l (bH d B Ξ m N S).2.1 (bH d B Ξ m N S).2.2 b Zl (λx M=>hP x (az _ M)) I D;simp only[bT];refine⟨i1,i2,λy U=>?_,?_⟩
  .rcases J4 U with U|U
   .exact h3 y U
   .exact i3 y U
  .rw[aA,al,aR];omega
noncomputable def K6(d B:Int)(l:List fK)(N:ω)(S:Τ):L6:=bT (bH d B 7) l N S
attribute [local irreducible] Β Y GP δ vi GF GE Z Ef C0 E CB GB V.Enters bH
def nz{L:Ι}(nb lb:Nat)(d F:Int)(n:G2)(S:Τ)(υ:B4)(b:Nat)(b8:b<=2000)(B:Int)(ad:OA)(cap:Nat)(O:List N7)(hP:∀m∈O,QV d 7 m.m)(hN:Nn υ d n.m S)(hb:ey S+F0 n.m+gy d (O.map (·.m))<=b)(c6:O.length<=1000000)(b1:(K6 d B (O.map (·.m)) n.m S).1.length<=1000000) :
  Υ Λ 86 #[ay nb,ae ad O.length cap,K B] (μ be 3 B2 ad cap O::η gO O::fh nb lb d F n (aT lb S::L)) (lQ nb lb d F (K6 d B (O.map (·.m)) n.m S) L):=by
 refine Υ.bd ?_;refine ML ?_;intros;rename_i bn bt br bp;unfold K6 at b1 ⊢;have c4:(O.map (·.m)).length=O.length:=ak _
 have b6:∀m∈O.map (·.m),QV d 7 m:=λm hm=>by
  obtain⟨x,M,rfl⟩:=H8 hm;exact hP x M
 refine Β.loop (α:=Nat×G2×OA×Nat×List N7) (λg=>g.1<=O.length/\g.2.1.m=(bT (bH d B 7) ((O.map (·.m)).take g.1) n.m S).2.1/\g.2.2.2.2.map (·.m)=(bT (bH d B 7) ((O.map (·.m)).take g.1) n.m S).1) (λg=>[(7,ay br),(8,ay bp),(12,ae ad O.length cap),(13,K (O.length:Int)),(14,K (g.1:Int))]) (λg=>Q9 bn br bt bp nb B g.2.2.1 g.2.2.2.2.length g.2.2.2.1 (μ be 3 B2 g.2.2.1 g.2.2.2.1 g.2.2.2.2::η gO g.2.2.2.2::μ be 3 B2 ad cap O::η gO O::fh nb lb d F g.2.1 (aT lb (bT (bH d B 7) ((O.map (·.m)).take g.1) n.m S).2.2::L))) (λg=>O.length - g.1) (0,n,none,0,[]) ⟨aD _,by rw[bA];rfl,by rw[bA];rfl⟩ aG ?_ ?_
 .dsimp only;rw[bA];refine(E.c8 be 3 B2).trans ((E.c7 gO).trans ?_);simp only[Q9,fh,hl,bT,bq];exact aj
 rintro⟨i,n2,a2,A,a4⟩ ⟨hi,a3,J⟩;dsimp only at hi a3 J ⊢;simp only[Q9];by_cases b2:i<O.length
 case neg =>
  have c2:(O.map (·.m)).take i=O.map (·.m):=aN D;rw[c2] at a3 J ⊢;refine ML ?_;intros;refine KX.a8 aC ?_ ⟨a2,A,a4,n2,rfl,J,a3,rfl⟩;simp only[fh,hl];exact aj
 have c0:(i:Int).toNat=i:=D;have a5:O[i]!∈O:=by rw[E7 b2];exact cY b2
 have b4:(O.map (·.m))[i]! = O[i]!.m:=eZ (f:=λx:N7=>x.m) b2;have b9:=Ff d (O.map (·.m)) (i:=i) D;have c5:=Fe d (O.map (·.m)) (i+1);rw[b4] at b9;obtain⟨f1,f2,f3,f4⟩:=nm (B:=B) (Ξ:=7) ((O.map (·.m)).take i) n.m S (ey S+F0 n.m+gy d ((O.map (·.m)).take i)) D (λm hm=>b6 m (cI hm)) hN (ax _);have a7:=pP (bH d B 7) (O.map (·.m)) n.m S (i:=i) D;rw[b4] at a7;have b0:=tB (bH d B 7) (O.map (·.m)) n.m S (i+1)
 have c1:a4.length+(bH d B 7 O[i]!.m n2.m (bT (bH d B 7) ((O.map (·.m)).take i) n.m S).2.2).1.length<=1000000:=by
  have e1:=congrArg List.length J;rw[ak] at e1;rw[a7] at b0;dsimp only at b0;rw[aA] at b0;rw[a3];omega
 refine Β.cM (E.at (Φ:=η gO O) (E.d8 (f:=gO) a5)) ?_;refine ML ?_;intros;rename_i b7;rw[c0];refine Y.cM (Ε:=Q9 bn br bt bp nb B a2 a4.length A (μ be 3 B2 a2 A a4::η gO a4::gO O[i]!::fh nb lb d F n2 (aT lb (bT (bH d B 7) ((O.map (·.m)).take i) n.m S).2.2::(μ be 3 B2 ad cap O::η gO O::L)))) (by simp only[Q9,fh,hl];exact aj) ?_;refine Y.ef (Ef.c7 (first:=[]) (cap:=[ay bn,ay br,ay bt,ay bp]) (vs:=[bC (be O[i]!)]) (wo nb lb d F υ b b8 B bn br bt bp 7 (μ be 3 B2 ad cap O::η gO O::L) n2 (bT (bH d B 7) ((O.map (·.m)).take i) n.m S).2.2 O[i]! a2 A a4 (hP _ a5) (by rw[a3];exact f1) (by rw[a3];omega) c1) rfl rfl) ac ?_;rintro _ _⟨b3,a9,c3,n3,a6,b5,rfl⟩;rw[a3] at a6 b5;simp only[Q9];refine ML ?_;intros;refine⟨(i+1,n3,b3,a9,c3),⟨by dsimp only;omega,by dsimp only;rw[b5,a7],by dsimp only;rw[a6,J,a7]⟩,by dsimp only;omega,?_,?_⟩
 .dsimp only;rw[bJ i];exact aG
 .dsimp only;rw[a7,a3];simp only[Q9,fh,hl];exact aj
end
section
open Go.V
noncomputable def dM(d F:Int)(x:fK)(B:Int)(N:ω)(S:Τ):L6 :=
 if x.to=d/\(0<=x.Ν/\x.Ν<F)/\x.Ν≠d then K6 d B (aX d x.Ν x.ct B N S).1 (aX d x.Ν x.ct B N S).2.1 (aX d x.Ν x.ct B N S).2.2 else([],N,S)
def KU(m:G4):0<(OR m).length:=by
 unfold OR;simp only[aA,aL,bq];omega
def yj{υ:B4}{d Ν B:Int}{m:G4}{N:ω}{S:Τ}(hN:Nn υ d N S)(hm:OL m)(hb:ey S+F0 N+2*Nu m.Α<=2000)(hk:0<=m.Ζ):((∀y∈(aX d Ν m B N S).1,QV d 7 y/\cost d y=0)/\Nn υ d (aX d Ν m B N S).2.1 (aX d Ν m B N S).2.2/\ey (aX d Ν m B N S).2.2+F0 (aX d Ν m B N S).2.1<=ey S+F0 N+2*Nu m.Α)/\(K6 d B (aX d Ν m B N S).1 (aX d Ν m B N S).2.1 (aX d Ν m B N S).2.2).1.length<=3300/\(aX d Ν m B N S).1.length<=3300:=by
 obtain⟨I,Q,h3⟩:=th (E0:=Ν) (B:=B) hN hm (ax _) hb;have T:=qR (E0:=Ν) (B:=B) (m:=m) hN
 have hp:∀y∈(aX d Ν m B N S).1,QV d 7 y/\cost d y=0:=λy U=>by
  have hs:=h3 y U;have h4:=hs.Ζ;refine⟨⟨hs.ct,by decide,λ_=>D⟩,?_⟩;unfold cost;split
  .rename_i q;rw[hs.sh q];rfl
  .rfl
 refine⟨⟨hp,I,Q⟩,?_,aO (Nat.le_mul_of_pos_right _ (vO (m.Ζ+1))) (aO T (re _))⟩
 obtain⟨_,_,_,i4⟩:=rK (υ:=υ) (d:=d) (f:=bH d B 7) (b:=ey S+F0 N+2*Nu m.Α) (C:=PT (m.Ζ+1)) (λy=>Ry d m.Ζ y/\QV d 7 y/\cost d y=0) (λy N' S' U A J=>by
  obtain⟨q1,q2,q3,q4⟩:=pB (B:=B) hb 7 y N' S' U.2.1 A (by rw[U.2.2];exact J);exact⟨q1,q2,q3,aO q4 (tH U.1.Ζ)⟩) _ _ _ (λy U=>⟨h3 y U,hp y U⟩) I Q
 exact aO i4 (aO T (re _))
theorem kb{d:Int}:∀{l:List fK},(∀y∈l,cost d y=0)->gy d l=0
 | [],_=>rfl
 | y::l,h=>by
  have e:gy d (y::l)=cost d y+gy d l:=by unfold gy;rw[al,aR]
  rw[e,h y au,kb λx M=>h x (az _ M)]
attribute [local irreducible] Β Y GP δ vi GF GE Z Ef C0 E CB GB V.Enters bH
def qL{L:Ι}(nb lb:Nat)(d F ν T:Int)(mb mp mr:Nat)(k:Int):Υ Λ 85 #[ay nb,K k] (obj nb C5 (hl lb d F ν T mb mp mr)::L) (F7 (.bool (dB (0<=k/\k<F))) (obj nb C5 (hl lb d F ν T mb mp mr)::L)):=by
 refine Υ.bd ?_;simp only[hl];by_cases h0:0<=k
 .by_cases I:k<F
  .rw[bO ⟨h0,I⟩];refine ML ?_;intros;refine KX.a8 aC (E.refl _) ⟨?_,rfl⟩;exact congrArg Value.bool (bO I)
  .rw[bz (λq=>I q.2)];refine ML ?_;intros;refine KX.a8 aC (E.refl _) ⟨?_,rfl⟩;exact congrArg Value.bool (bz I)
 .rw[bz (λq=>h0 q.1)];refine ML ?_;intros;exact KX.en ⟨rfl,rfl⟩
abbrev Ej:=Yu [.ev 10,.ef 11,.ev 12,.ev 13,.ev 14,.ev 15,.ev 16,.ev 17,.ev 18,.ev 19,.ev 20,.ev 21,.ev 22,.ev 23,.ev 24,.ev 25,.ev 26,.ev 27,.ev 28]
def VN{φ ψ:Prop}(k:ψ)(h:Hid ψ->φ:=by intro k;(repeat (first|refine ab ?_|intro B8|refine Β.dr 43 1 Ej ?_));(repeat revert B8);exact Hid.out k):φ:=h ⟨k⟩
def qA{L:Ι}(nb lb:Nat)(d F:Int)(n:G2)(S:Τ)(υ:B4)(x:N7)(J:OL x.m.ct)(a5:0<=x.m.ct.Ζ)(hN:Nn υ d n.m S)(hk:ey S+F0 n.m+2*Nu x.m.ct.Α<=2000)(B:Int) :
  Υ Λ 38 #[ay nb,bC (be x),K B] (gO x::fh nb lb d F n (aT lb S::L)) (lQ nb lb d F (dM d F x.m B n.m S) L):=by
 have a6:=KU x.m.ct;refine Υ.bd ?_;simp only[fh,hl];by_cases ht:x.m.to=d
 case neg =>
  have hr:dM d F x.m B n.m S=([],n.m,S):=Ο λq=>ht q.1;rw[hr];refine VN ?_;intros;refine KX.a8 aC ?_ ⟨none,0,[],n,rfl,rfl,rfl,rfl⟩;refine(E.c8 be 3 B2).trans ((E.c7 gO).trans ?_);simp only[fh,hl];exact aj
 refine VN ?_;intros;rename_i b4;refine δ.cM (Ε:=obj nb C5 [ay lb,K d,K F,K n.ν,K n.T,.map (some n.mb),.map (some n.mp),.map (some n.mr)]::(obj b4 B2 (be x)::gO x::ew gT cz n.mb n.Ψ::h2 I2 n.Ψ::ew gT cC n.mp n.Γ::h2 H6 n.Γ::ew D6 bM n.mr (J7 n.wk)::aT lb S::L)) aj ?_;refine δ.cr (qL nb lb d F n.ν n.T n.mb n.mp n.mr x.m.Ν) ?_;simp only[hl];by_cases A:0<=x.m.Ν/\x.m.Ν<F
 case neg =>
  have hr:dM d F x.m B n.m S=([],n.m,S):=Ο λq=>A q.2.1;rw[bz A];refine VN ?_;intros;rw[hr];refine KX.a8 aC ?_ ⟨none,0,[],n,rfl,rfl,rfl,rfl⟩;refine(E.c8 be 3 B2).trans ((E.c7 gO).trans ?_);simp only[fh,hl];exact aj
 rw[bO A];by_cases a2:x.m.Ν=d
 .have hr:dM d F x.m B n.m S=([],n.m,S):=Ο λq=>q.2.2 a2;refine VN ?_;intros;rw[hr];refine KX.a8 aC ?_ ⟨none,0,[],n,rfl,rfl,rfl,rfl⟩;refine(E.c8 be 3 B2).trans ((E.c7 gO).trans ?_);simp only[fh,hl];exact aj
 have hr:dM d F x.m B n.m S=K6 d B (aX d x.m.Ν x.m.ct B n.m S).1 (aX d x.m.Ν x.m.ct B n.m S).2.1 (aX d x.m.Ν x.m.ct B n.m S).2.2:=Ω ⟨ht,A,a2⟩;obtain⟨⟨r1,r2,r3⟩,r4,r5⟩:=yj (Ν:=x.m.Ν) (B:=B) hN J hk a5;refine VN ?_;intros;refine Y.cM (Ε:=gO x::fh nb lb d F n (aT lb S::L)) (by simp only[fh,hl];exact aj) ?_;refine Y.ca (si nb lb d F n S υ x J hN hk B) ?_;rintro _ _⟨ad,cap,O,n1,rfl,a3,a4,rfl⟩;rw[<-a3,<-a4] at hr r4;rw[<-a3] at r1 r5;rw[<-a4] at r2 r3;rw[hr];generalize (aX d x.m.Ν x.m.ct B n.m S).2.2=S1 at *;have hP:∀y∈O,QV d 7 y.m:=λy U=>(r1 _ (O6 U)).1;have hz:gy d (O.map (·.m))=0:=kb λy U=>(r1 y U).2;rw[ak] at r5;refine VN ?_;intros;refine Y.ef (Ef.d8 (vs:=[ay nb,ae ad O.length cap,K B]) (nz (L:=L) nb lb d F n1 S1 υ 2000 (ax _) B ad cap O hP r2 D D D) rfl) ac ?_;intro v Ε hv;refine VN ?_;intros;refine KX.a8 aC (E.refl _) ?_;exact hv
end
section
open Go.V
def cD(d r:Int)(x:K4)(B:Int):List fK×K4 :=
 if x.dec=true then(ck d x.lq x.told (D4 3 r 0 x.F4),x)
 else if x.C7<B then(ck d x.lq [] (D4 3 r 0 false),x.Rw false)
 else(ck d x.lq x.I8 ⟨1,r,0,false,x.Α,[]⟩,x)
def FQ{r:Int}{x:N8}{L:Ι}:E (τ aZ 5 x.bD x.Α::η ms x.Α::L) (MV ⟨1,r,0,false,x.Α,x.bD,x.id,[],none,0⟩::τ aZ 5 x.bD x.Α::η ms x.Α::L):=by
 refine(E.dup (cT _ _ _ _).QM).trans ?_;refine E.trans (hx:=η ms x.Α::τ aZ 5 x.bD x.Α::τ aZ 5 x.bD x.Α::L) aj ?_;refine(E.dup (eV fx).QM).trans ?_;refine(E.f7 (eU .i64) 1 none).trans ?_;refine E.trans (hx:=η ms x.Α::τ (eU .i64) 1 none []::η ms x.Α::τ aZ 5 x.bD x.Α::τ aZ 5 x.bD x.Α::L) aj ?_;refine(E.g8 (eV fx) (cT _ _ _ _)).trans ?_;refine E.trans (hx:=τ aZ 5 x.bD x.Α::R5 (η ms x.Α) (τ (eU .i64) 1 none [])::τ aZ 5 x.bD x.Α::η ms x.Α::L) aj ?_;exact E.g8 (cT _ _ _ _) (Og.and (eV fx) (cT _ _ _ _))
attribute [local irreducible] Β Y GP δ vi GF GE Z Ef C0 E CB GB V.Enters bH
def Iz{L:Ι}(lb:Nat)(d F:Int)(h0:0<=d)(I:d<F)(Q:F<=12) :
  Υ Λ 49 #[ay lb,K d,K F] L (λv Ε=>∃nb mb mp mr,v=.tuple #[ay nb,K 0]/\Ε = fh nb lb d F ⟨mb,mp,mr,0,0,[],[],[]⟩ L):=by
 have e1:¬F<1:=D;have e2:¬F>12:=D;have e3:¬d<0:=D;have e4:¬d >= F:=D;refine Υ.bd ?_;refine ML ?_;intros;refine Y.ef (Ef.c8 gT cz (.inl rfl)) ac ?_;rintro _ _⟨mb,rfl,rfl⟩;refine Y.ef (Ef.c8 gT cC (.inl rfl)) ac ?_;rintro _ _⟨mp,rfl,rfl⟩;refine Y.ef (Ef.c8 D6 bM (.inl rfl)) ac ?_;rintro _ _⟨mr,rfl,rfl⟩;refine ML ?_;intros;rename_i nb;refine KX.a8 aC ?_ ⟨nb,mb,mp,mr,rfl,rfl⟩;simp only[fh,hl];refine(E.j6 I2).trans ((E.j6 H6).trans ?_);rw[show J7 []=[] from rfl];exact aj
abbrev Ei:=Yu [.ev 10,.ev 11,.ef 12,.ev 13]
abbrev Eh:=Yu [.ev 10,.ev 11,.ef 12,.ev 13]
def VU{φ ψ:Prop}(k:ψ)(h:Hid ψ->φ:=by intro k;(repeat (first|refine ab ?_|intro B8|refine Β.dr 51 2 Ei ?_|refine Β.dr 51 5 Eh ?_));(repeat revert B8);exact Hid.out k):φ:=h ⟨k⟩
def Fy{L:Ι}(nb lb:Nat)(d F ν T:Int)(mb mp mr:Nat)(r:Int)(a4:xs r)(x:N8)(M:Wl x.m)(B:Int) :
  Υ Λ 96 #[ay nb,K r,.pointer (some ⟨x.b,0,none⟩),K B] (obj nb C5 (hl lb d F ν T mb mp mr)::Oj x L) (λv Ε=>∃ad cap O y,v=ae ad O.length cap/\y.b=x.b/\(O.map (·.m),y.m)=cD d r x.m B/\Ε = μ be 3 B2 ad cap O::η gO O::obj nb C5 (hl lb d F ν T mb mp mr)::Oj y L):=by
 have a3:x.lq.length<=100:=M.gl;refine Υ.bd ?_;simp only[hl,Oj,NC];cases hd:x.dec with
 | true =>
  have hr:cD d r x.m B=(ck d x.lq x.told (OM 3 r 0 x.F4).m,x.m):=by
   unfold cD;rw[Ω (show x.m.dec=true from hd)];rfl
  have A:=my (L:=ew gT bM x.mt (Nh x.told)::ew gT bM x.mv (Nh x.I8)::τ aZ 5 x.bD x.Α::η ms x.Α::L) nb lb d F ν T mb mp mr x a3 (OM 3 r 0 x.F4) (jt (Ζ:=3) (ai:=0) (by unfold xs;omega) a4 (by unfold xs;omega)) (some x.mt) x.told (.inr ⟨x.mt,_,rfl,rfl⟩);simp only[NC,hd] at A;refine VU ?_;intros;refine δ.cM (Ε:=obj nb C5 [ay lb,K d,K F,K ν,K T,.map (some mb),.map (some mp),.map (some mr)]::MV (OM 3 r 0 x.F4)::obj x.b Pg [ae x.bD x.Α.length x.id,ae x.M4 x.lq.length x.OT,K x.C7,.map (some x.mv),.map (some x.mt),.bool true,.bool x.F4]::τ (eU .i64) 1 x.M4 x.lq::(ew gT bM x.mt (Nh x.told)::ew gT bM x.mv (Nh x.I8)::τ aZ 5 x.bD x.Α::η ms x.Α::L)) ((Sd (Ζ:=3) (r:=r) (ai:=0) (yes:=x.F4)).trans aj) ?_;refine δ.ca (A) ?_;rintro _ _⟨ad,cap,O,rfl,a2,rfl⟩;simp only[hl];refine VU ?_;intros;refine KX.a8 aC ?_ ⟨ad,cap,O,x,rfl,rfl,by rw[a2,hr],rfl⟩;simp only[Oj,NC,hd];exact aj
 | false =>
  by_cases hu:x.C7<B
  .have a5 : B>x.C7:=hu
   have hr:cD d r x.m B=(ck d x.lq [] (D4 3 r 0 false),x.m.Rw false):=by
    unfold cD;rw[Ο (by rw[show x.m.dec=false from hd];exact fu),Ω (show x.m.C7<B from hu)];rfl
   have J:=sB (L:=ew gT bM x.mt (Nh x.told)::ew gT bM x.mv (Nh x.I8)::τ aZ 5 x.bD x.Α::η ms x.Α::L) nb lb d F ν T mb mp mr r a4 x a3 false;simp only[NC,hd] at J;refine VU ?_;intros;refine Y.cM (Ε:=obj nb C5 [ay lb,K d,K F,K ν,K T,.map (some mb),.map (some mp),.map (some mr)]::obj x.b Pg [ae x.bD x.Α.length x.id,ae x.M4 x.lq.length x.OT,K x.C7,.map (some x.mv),.map (some x.mt),.bool false,.bool x.F4]::τ (eU .i64) 1 x.M4 x.lq::(ew gT bM x.mt (Nh x.told)::ew gT bM x.mv (Nh x.I8)::τ aZ 5 x.bD x.Α::η ms x.Α::L)) aj ?_;refine Y.ca (J) ?_;rintro _ _⟨ad,cap,O,rfl,a2,rfl⟩;simp only[hl];refine VU ?_;intros;refine KX.a8 aC ?_ ⟨ad,cap,O,{ x with dec:=true,F4:=false },rfl,rfl,by rw[a2,hr];rfl,rfl⟩;simp only[Oj,NC];exact aj
  .have a5 : ¬B>x.C7:=hu
   have hr:cD d r x.m B=(ck d x.lq x.I8 (⟨1,r,0,false,x.Α,x.bD,x.id,[],none,0⟩:OK).m,x.m):=by
    unfold cD;rw[Ο (by rw[show x.m.dec=false from hd];exact fu),Ο (show ¬x.m.C7<B from hu)];rfl
   have A:=my (L:=ew gT bM x.mv (Nh x.I8)::ew gT bM x.mt (Nh x.told)::τ aZ 5 x.bD x.Α::η ms x.Α::L) nb lb d F ν T mb mp mr x a3 (⟨1,r,0,false,x.Α,x.bD,x.id,[],none,0⟩:OK) ⟨⟨by unfold xs;dsimp only[OK.m];omega,a4,by unfold xs;dsimp only[OK.m];omega⟩,M.Α,M.lg,aD _,λ_ h=>iJ h aH⟩ (some x.mv) x.I8 (.inr ⟨x.mv,_,rfl,rfl⟩);simp only[NC,hd] at A;refine VU ?_;intros;refine δ.cM (Ε:=obj nb C5 [ay lb,K d,K F,K ν,K T,.map (some mb),.map (some mp),.map (some mr)]::MV (⟨1,r,0,false,x.Α,x.bD,x.id,[],none,0⟩:OK)::obj x.b Pg [ae x.bD x.Α.length x.id,ae x.M4 x.lq.length x.OT,K x.C7,.map (some x.mv),.map (some x.mt),.bool false,.bool x.F4]::τ (eU .i64) 1 x.M4 x.lq::(ew gT bM x.mv (Nh x.I8)::ew gT bM x.mt (Nh x.told)::τ aZ 5 x.bD x.Α::η ms x.Α::L)) (E.trans (hx:=τ aZ 5 x.bD x.Α::η ms x.Α::obj nb C5 [ay lb,K d,K F,K ν,K T,.map (some mb),.map (some mp),.map (some mr)]::obj x.b Pg [ae x.bD x.Α.length x.id,ae x.M4 x.lq.length x.OT,K x.C7,.map (some x.mv),.map (some x.mt),.bool false,.bool x.F4]::τ (eU .i64) 1 x.M4 x.lq::ew gT bM x.mv (Nh x.I8)::ew gT bM x.mt (Nh x.told)::L) aj ((FQ (r:=r) (x:=x)).trans aj)) ?_;refine δ.ca (A) ?_;rintro _ _⟨ad,cap,O,rfl,a2,rfl⟩;simp only[hl];refine VU ?_;intros;refine KX.a8 aC ?_ ⟨ad,cap,O,x,rfl,rfl,by rw[a2,hr],rfl⟩;simp only[Oj,NC,hd];exact aj
