/- Lemmas. -/
import Derived.Test.YtlgpgjdggilkgaaGreatDoorEdbe
import Derived.Shelf.Sort.Plain
import Derived.Shelf.Slices.In.SortNone
import Derived.Ground.Names2Prog
set_option linter.all false
set_option maxHeartbeats 8000000
namespace Go.Proofs.YtlgpgjdggilkgaaGreatDoor
section
open Go.V
def bL(ls:List x4)(k:Nat):List Int:=((List.range k).map λ (i:Nat)=>(i:Int)).filter λs=>decide (∃l∈ls,l.d=s)
theorem nt(ls:List x4)(k:Nat):bL ls (k+1)=bL ls k++(if ∃l∈ls,l.d=(k:Int) then[(k:Int)] else[]):=by
 unfold bL;rw[df,aQ,List.filter_append];congr 1;by_cases h:∃l∈ls,l.d=(k:Int)
 .grind
 grind
theorem jx(ls:List x4)(k:Nat):(bL ls k).length<=k:=by
 grind [bL]
theorem UW{ls:List x4}{k:Nat}{g:Int}:g∈bL ls k↔(0<=g/\g<k)/\∃l∈ls,l.d=g:=by
 unfold bL;rw[List.mem_filter,List.mem_map];refine⟨ah,λ⟨h,q⟩=>⟨⟨g.toNat,List.mem_range.2 D,D⟩,by simpa using q⟩⟩
theorem iP(ls:List x4)(k:Nat):(bL ls k).Nodup:=by
 grind [bL,List.nodup_range]
theorem Am{n:Int}:∀{p:Int} {l:List (Int×Int)},Ra n p l->p<n->(l.length:Int)<=n - p - 1
 | _,[],_,h=>ah
 | p,a::l,h,hp=>by
  obtain⟨I,Q,h3⟩:=h;have:=Am h3 I.2.1
  grind
theorem Al{n:Int}:∀{p:Int} {l:List (Int×Int)},Ra n p l->∀a∈l,Sx n a
 | _,[],_,_,h=>ah
 | _,b::l,h,a,ha=>by
  rcases L7 ha with rfl|ha
  .exact h.1
  .exact Al h.2.2 a ha
def Ut.ok{F n:Int}{l:x4}(h:Ut F n l)(hs:F<=12)(hn:0<=n/\n<=64):lP l:=by
 obtain⟨I,Q⟩:=h.fr;obtain⟨h3,h4⟩:=h.to;have h5:=h.d;have h6:=h.ts;have h7:=Am h.Wo D;refine⟨⟨?_,?_,?_,?_⟩,D,λa ha=>?_⟩;iterate 4 (unfold xs;omega)
 obtain⟨q1,q2,q3,q4⟩:=Al h.Wo a ha;unfold xs;omega
noncomputable def fO(d F:Int)(ls:List x4)(B C7:Int)(N:ω)(S:Τ):(Int×Int)×L6 :=
 if C7>1099511627776\/¬jE F S.υ.B7.length ls then((0,1),[],N,S)
 else if C7<B then((0,14),[],N,S)
 else((d*4294967296+N.ν,0),K6 d B (ck d (bL ls F.toNat) [] ⟨1,d*4294967296+N.ν,0,false,ls,[]⟩) { N with ν:=N.ν+1,Ψ:=ez N.Ψ (d*4294967296+N.ν) ⟨ls,bL ls F.toNat,C7,[],[],false,false⟩ } S)
theorem CE{F n r:Int}{ls:List x4}(h:jE F n ls)(hs:F<=12)(hn:0<=n/\n<=64)(A:xs r):OL ⟨1,r,0,false,ls,[]⟩ :=
 ⟨by grind [xs],h.1.2,λl T=>(h.2 l T).ok hs hn,aD _,ah⟩
theorem ra{d:Int}{ct:G4}:∀{gs:List Int},gs.Nodup->gy d (gs.map λg=>(⟨d,g,ct⟩:fK))<=2*Nu ct.Α
 | [],_=>aD _
 | g::gs,h=>by
  obtain⟨I,Q⟩:=List.nodup_cons.1 h;have ih:=ra (d:=d) (ct:=ct) Q;grind [gy,cost,kb]
theorem mA(d:Int)(gs:List Int)(ct:G4):ck d gs [] ct=gs.map λg=>(⟨d,g,ct⟩:fK):=by
 grind [ck,List.filter_eq_self]
theorem wT{d F n r:Int}{ls:List x4}(h:jE F n ls)(hs:F<=12)(hn:0<=n/\n<=64)(A:xs r){gs:List Int}:∀y∈ck d gs [] ⟨1,r,0,false,ls,[]⟩,QV d 7 y:=λy U=>by
 rw[mA] at U;obtain⟨g,_,rfl⟩:=H8 U;exact⟨CE h hs hn A,by decide,ah⟩
theorem Ak{υ:B4}{d F:Int}{N:ω}{S:Τ}{r u:Int}{ls:List x4}(h:Nn υ d N S)(hs:F<=12):Nn υ d { N with ν:=N.ν+1,Ψ:=ez N.Ψ r ⟨ls,bL ls F.toNat,u,[],[],false,false⟩ } S :=
 ⟨h.J1,h.T,h.nd,λp hp=>by
  rcases jR hp with rfl|hp
  .grind [jx]
  .exact h.Ot p hp,h.pts⟩
theorem jH{α:Type}{f:α->Nat}{C:Nat}:∀{l:List α},(∀x∈l,f x<=C)->(l.map f).sum<=l.length*C
 | [],_=>aD _
 | x::l,h=>by
  have I:=h x ah;have Q:=jH (l:=l) λy U=>h y (az _ U);rw[al,aR,aL,dX];omega
theorem Hu{υ:B4}{d B:Int}{gs:List Int}{ct:G4}{N:ω}{S:Τ}(hg:gs.length<=100)(hP:∀y∈ck d gs [] ct,QV d 7 y)(hN:Nn υ d N S)(hb:ey S+F0 N+gy d (ck d gs [] ct)<=2000):(K6 d B (ck d gs [] ct) N S).1.length<=1000000:=by
 obtain⟨_,_,_,h4⟩:=nm (B:=B) (Ξ:=7) _ _ _ 2000 D hP hN hb;have h5:=jH (f:=λm:fK=>PT m.ct.Ζ) (C:=3300) (l:=ck d gs [] ct) λm _=>re _;grind [K6,ck]
theorem MB{n:G2}{r:Int}(hn:(n.Ψ.map (·.1)).Nodup)(h:List.lookup r n.Ψ=none)(y:N8){L:Ι}:E (Oj y (h2 I2 n.Ψ::L)) (h2 I2 (ez n.Ψ r y)::L):=by
 have e:I1 n.Ψ r=n.Ψ:=pN ah;refine E.trans (hx:=I2 (r,y)::h2 I2 (I1 n.Ψ r)::L) ?_ (E.k8 hn y);rw[e];exact E.f8 (Φ:=[obj y.b Pg (NC y),ew gT bM y.mv (Nh y.I8),ew gT bM y.mt (Nh y.told),τ aZ 5 y.bD y.Α,η ms y.Α,τ (eU .i64) 1 y.M4 y.lq])
attribute [local irreducible] Β Y GP δ vi GF GE Z Ef C0 E CB GB V.Enters bH K6
def EI{L:Ι}(l:MT)(bs:Nat)(s:Int):Υ Tryz.prog 113 #[bC (aZ l),ay bs] (obj bs C3 [K s]::L) (F7 (.bool (dB (l.m.d=s))) (obj bs C3 [K s]::L)):=by
 refine Υ.bd ?_;refine ML ?_;intros;exact KX.en ⟨rfl,rfl⟩
theorem xj{L:Ι}(bs:Nat)(s:Int)(ad:OA)(n c:Nat)(ls:List MT)(hn:n=ls.length)(T:ls.length<=1000) :
  Υ Tryz.prog 169 #[ae ad n c,.func (.func 113) #[] #[ay bs]] (obj bs C3 [K s]::τ aZ 5 ad ls::L) (λv Ε=>∃k:Int,v=K k/\(0<=k↔∃o∈ls,o.m.d=s)/\Ε = obj bs C3 [K s]::τ aZ 5 ad ls::L):=by
 subst hn;refine Υ.bd ?_;refine ML ?_;intros;refine Β.loop (α:=Nat) (λi=>i<=ls.length/\∀o∈ls.take i,¬o.m.d=s) (λi=>[(0,ae ad ls.length c),(1,.func (.func 113) #[] #[ay bs]),(7,K (ls.length:Int)),(8,K (i:Int))]) (λi=>obj bs C3 [K s]::τ aZ 5 ad ls::L) (λi=>ls.length - i) 0 ah aG (E.refl _) ?_;rintro i ⟨hi,ha⟩;by_cases J:i<ls.length
 case neg =>
  rw[aN D] at ha;refine ML ?_;intros;refine KX.a8 aC (E.refl _) ⟨-1,rfl,⟨D,ah⟩,rfl⟩
 have A:(i:Int).toNat=i:=D;have a2:ls[i]!∈ls:=bI J;refine ML ?_;intros;rw[A];refine Y.ef (Ef.c7 (first:=[]) (cap:=[ay bs]) (vs:=[bC (aZ ls[i]!)]) (EI ls[i]! bs s) rfl rfl) ac ?_;rintro _ _⟨rfl,rfl⟩;by_cases hs:ls[i]!.m.d=s
 .rw[bO hs];refine ML ?_;intros;refine KX.a8 aC (E.refl _) ⟨(i:Int),rfl,⟨ah,D⟩,rfl⟩
 .rw[bz hs];refine ML ?_;intros;refine⟨i+1,⟨D,λo ho=>?_⟩,D,?_,E.refl _⟩
  .grind [aB]
  .rw[bJ i];exact aG
theorem tF{L:Ι}(bs:Nat)(s:Int)(ad:OA)(n c:Nat)(ls:List MT)(hn:n=ls.length)(T:ls.length<=1000) :
  Υ Tryz.prog 112 #[ae ad n c,.func (.func 113) #[] #[ay bs]] (obj bs C3 [K s]::τ aZ 5 ad ls::L) (λv Ε=>v=.bool (dB (∃o∈ls.map (·.m),o.d=s))/\Ε = obj bs C3 [K s]::τ aZ 5 ad ls::L):=by
 refine Υ.bd ?_;refine ML ?_;intros;refine Y.ca (xj (L:=L) bs s ad n c ls hn T) ?_;rintro _ _⟨k,rfl,hk,rfl⟩;refine ML ?_;intros;refine KX.a8 aC (E.refl _) ⟨?_,rfl⟩;refine congrArg Value.bool ?_;grind [dF]
end
section
open Go.V
attribute [local irreducible] Β Y GP δ vi GF GE Z Ef C0 E CB GB V.Enters bH K6
abbrev Ee:=Yu [.ev 10]
abbrev Bd:=Ys [.ef 6,.ef 7,.ev 8,.ev 9,.ef 10]
def WD{φ ψ:Prop}(k:ψ)(h:Hid ψ->φ:=by intro k;(repeat (first|refine ab ?_|intro B8|refine Β.dr 89 5 Ee ?_|refine Β.dr 89 12 Bd ?_));(repeat revert B8);exact Hid.out k):φ:=h ⟨k⟩
def uV{L:Ι}(nb lb:Nat)(d F:Int)(b6:0<=d/\d<F/\F<=12)(n:G2)(S:Τ)(υ:B4)(hN:Nn υ d n.m S)(hi:S.υ.B7.length<=64)(c6:0<=n.ν/\n.ν<=1000000)(ad:OA)(m c:Nat)(ls:List MT)(hm:m=ls.length)(J:ls.length<=1000)(c0:∀l∈ls,l.m.am.length<=1000)(B C7:Int)(hk:ey S+F0 n.m+2*Nu (ls.map (·.m))<=2000)(b2:ε n.m.Ψ (d*4294967296+n.ν)=none) :
  Υ Tryz.prog 50 #[ay nb,ae ad m c,K B,K C7] (τ aZ 5 ad ls::η ms ls::fh nb lb d F n (aT lb S::L)) (λv Ε=>∃b9 a3 O n',v=.tuple #[K (fO d F (ls.map (·.m)) B C7 n.m S).1.1,ae b9 O.length a3,K (fO d F (ls.map (·.m)) B C7 n.m S).1.2]/\O.map (·.m)=(fO d F (ls.map (·.m)) B C7 n.m S).2.1/\n'.m=(fO d F (ls.map (·.m)) B C7 n.m S).2.2.1/\Ε = μ be 3 B2 b9 a3 O::η gO O::fh nb lb d F n' (aT lb (fO d F (ls.map (·.m)) B C7 n.m S).2.2.2::L)):=by
 subst hm;have c2:0<=(S.υ.B7.length:Int)/\(S.υ.B7.length:Int)<=64:=D;have c1:n.m.ν=n.ν:=rfl;generalize hid:d*4294967296+n.ν=r at *;have a4:xs r:=by unfold xs;omega
 have d6:List.lookup r n.Ψ=none:=by
  rw[fX] at b2;cases h:List.lookup r n.Ψ with
  | none=>rfl
  | some x=>rw[h] at b2;cases b2
 generalize hR:fO d F (ls.map (·.m)) B C7 n.m S=R;unfold fO at hR;rw[c1,hid] at hR;have A:∀{ο:Ι},E ο (μ be 3 B2 none 0 []::η gO []::ο):=λ {ο}=>(E.c7 gO).trans (E.c8 be 3 B2);refine Υ.bd ?_;simp only[fh,hl];refine Β.c8 (eN (b:=n.mb)) λhn=>?_;by_cases I:C7>1099511627776
 .rw[Ω (.inl I)] at hR;subst hR;refine WD ?_;intros;refine KX.a8 aC ?_ ⟨none,0,[],n,rfl,rfl,rfl,rfl⟩;refine A.trans ?_;simp only[fh,hl];exact aj
 refine WD ?_;intros;refine Y.cM (Ε:=obj nb C5 (hl lb d F n.ν n.T n.mb n.mp n.mr)::aT lb S::τ aZ 5 ad ls::η ms ls::(ew gT cz n.mb n.Ψ::h2 I2 n.Ψ::ew gT cC n.mp n.Γ::h2 H6 n.Γ::ew D6 bM n.mr (J7 n.wk)::L)) (by simp only[hl];exact aj) ?_;refine Y.cr (xf nb lb d F n.ν n.T n.mb n.mp n.mr S hi ad ls.length c ls rfl J c0) ?_;simp only[hl];by_cases Q:jE F S.υ.B7.length (ls.map (·.m))
 case neg =>
  rw[Ω (.inr Q)] at hR;subst hR;rw[bz Q];refine WD ?_;intros;refine KX.a8 aC ?_ ⟨none,0,[],n,rfl,rfl,rfl,rfl⟩;refine A.trans ?_;simp only[fh,hl];exact aj
 rw[Ο (λq=>q.elim I λq=>q Q)] at hR;rw[bO Q];by_cases h3:C7<B
 .rw[Ω h3] at hR;subst hR;refine WD ?_;intros;refine KX.a8 aC ?_ ⟨none,0,[],n,rfl,rfl,rfl,rfl⟩;refine A.trans ?_;simp only[fh,hl];exact aj
 rw[Ο h3] at hR;have b5:=wT (d:=d) Q b6.2.2 c2 a4 (gs:=bL (ls.map (·.m)) F.toNat);have hin:=Ak (F:=F) (r:=r) (u:=C7) (ls:=ls.map (·.m)) hN b6.2.2
 have d0:gy d (ck d (bL (ls.map (·.m)) F.toNat) [] ⟨1,r,0,false,ls.map (·.m),[]⟩)<=2*Nu (ls.map (·.m)):=by
  rw[mA];exact ra (iP _ _)
 have e3:=jx (ls.map (·.m)) F.toNat;have a6:=Hu (B:=B) D b5 hin (by unfold F0 at hk ⊢;dsimp only;omega);refine WD ?_;intros;refine δ.MP (Z.A4 rfl rfl D D) ac ?_;refine WD ?_;intros;rw[hid];refine Y.cM (Ε:=η ms ls::(τ aZ 5 ad ls::obj nb C5 [ay lb,K d,K F,K (n.ν+1),K n.T,.map (some n.mb),.map (some n.mp),.map (some n.mr)]::ew gT cz n.mb n.Ψ::h2 I2 n.Ψ::ew gT cC n.mp n.Γ::h2 H6 n.Γ::ew D6 bM n.mr (J7 n.wk)::aT lb S::L)) aj ?_;refine Y.ca (zW ad c ls J c0) ?_;rintro _ _⟨bD,id,G,rfl,b7,rfl⟩;refine Y.cM E.NZ ?_;refine WD ?_;intros;refine Y.ef (Ef.c8 gT bM (.inl rfl)) ac ?_;rintro _ _⟨mv,rfl,rfl⟩;refine Y.ef (Ef.c8 gT bM (.inl rfl)) ac ?_;rintro _ _⟨mt,rfl,rfl⟩;refine WD ?_;intros;rename_i bx;refine Β.loop (α:=Nat×OA×Nat) (λg=>(g.1:Int)<=F) (λg=>[(0,ay nb),(1,ae ad ls.length c),(2,K B),(11,K r),(12,ay bx),(52,K F),(53,K (g.1:Int))]) (λg=>μ (eU .i64) 1 C3 g.2.1 g.2.2 (bL (ls.map (·.m)) g.1)::obj bx Pg [ae bD G.length id,ae g.2.1 (bL (ls.map (·.m)) g.1).length g.2.2,K C7,.map (some mv),.map (some mt),.bool false,.bool false]::ew gT bM mv []::ew gT bM mt []::τ aZ 5 bD G::η ms G::η ms ls::τ aZ 5 ad ls::obj nb C5 [ay lb,K d,K F,K (n.ν+1),K n.T,.map (some n.mb),.map (some n.mp),.map (some n.mr)]::ew gT cz n.mb n.Ψ::h2 I2 n.Ψ::ew gT cC n.mp n.Γ::h2 H6 n.Γ::ew D6 bM n.mr (J7 n.wk)::aT lb S::L) (λg=>F.toNat - g.1) (0,none,0) oT aG ?_ ?_
 .dsimp only;refine(E.c8 (eU .i64) 1 C3).trans ?_;rw[show bL (ls.map (·.m)) 0=[] from rfl];exact aj
 rintro⟨k,M4,OT⟩ d3;dsimp only at d3 ⊢;have e2:=jx (ls.map (·.m)) k;by_cases e4:(k:Int)<F
 .have a7:=nt (ls.map (·.m)) k;refine WD ?_;intros;rename_i bs;refine Y.cM (Ε:=obj bs C3 [K (k:Int)]::τ aZ 5 ad ls::(μ (eU .i64) 1 C3 M4 OT (bL (ls.map (·.m)) k)::obj bx Pg [ae bD G.length id,ae M4 (bL (ls.map (·.m)) k).length OT,K C7,.map (some mv),.map (some mt),.bool false,.bool false]::ew gT bM mv []::ew gT bM mt []::τ aZ 5 bD G::η ms G::η ms ls::obj nb C5 [ay lb,K d,K F,K (n.ν+1),K n.T,.map (some n.mb),.map (some n.mp),.map (some n.mr)]::ew gT cz n.mb n.Ψ::h2 I2 n.Ψ::ew gT cC n.mp n.Γ::h2 H6 n.Γ::ew D6 bM n.mr (J7 n.wk)::aT lb S::L)) aj ?_;refine Y.cr (tF bs (k:Int) ad ls.length c ls rfl J) ?_;by_cases hg:∃l∈ls.map (·.m),l.d=(k:Int)
  .rw[Ω hg] at a7;rw[bO hg];refine WD ?_;intros;refine δ.ef (Ef.a8 (Η:=eU .i64) (e:=(k:Int)) rfl rfl rfl rfl rfl aY (iq _ _) D D) ac ?_;rintro _ _⟨c4,a9,rfl,rfl⟩;rw[<-a7];refine WD ?_;intros;refine⟨(k+1,c4,a9),by dsimp only;omega,by dsimp only;omega,?_,by exact aj⟩;dsimp only;rw[bJ k];exact aG
  .rw[Ο hg,aJ] at a7;rw[bz hg];refine WD ?_;intros;refine⟨(k+1,M4,OT),by dsimp only;omega,by dsimp only;omega,?_,?_⟩
   .dsimp only;rw[bJ k];exact aG
   .dsimp only;rw[a7];exact aj
 have d4:k=F.toNat:=D;subst d4;generalize hgs:bL (ls.map (·.m)) F.toNat=gs at *;refine Β.cM E.NZ ?_;let x:N8:=⟨bx,G,bD,id,gs,M4,OT,C7,[],mv,[],mt,false,false⟩
 have e1:x.m=⟨ls.map (·.m),gs,C7,[],[],false,false⟩:=by
  show(⟨G.map (·.m),gs,C7,[],[],false,false⟩:K4)=_;rw[b7]
 have b1:=my (L:=ew gT bM mv []::ew gT bM mt []::τ aZ 5 bD G::η ms G::η ms ls::τ aZ 5 ad ls::ew gT cz n.mb (ez n.Ψ r x)::h2 I2 n.Ψ::ew gT cC n.mp n.Γ::h2 H6 n.Γ::ew D6 bM n.mr (J7 n.wk)::aT lb S::L) nb lb d F (n.ν+1) n.T n.mb n.mp n.mr x (D:gs.length<=100) (⟨1,r,0,false,G,bD,id,[],none,0⟩:OK) (by
  have h:=CE Q b6.2.2 c2 a4;rw[<-b7] at h;exact h) none [] (.inl ⟨rfl,rfl⟩)
 refine WD ?_;intros;refine Y.No (Ef.d9 (Η:=cz) x rfl rfl rfl rfl) ?_;rintro _ _ rfl;refine WD ?_;intros;refine Y.cM (Ε:=obj nb C5 (hl lb d F (n.ν+1) n.T n.mb n.mp n.mr)::MV (⟨1,r,0,false,G,bD,id,[],none,0⟩:OK)::obj x.b Pg (NC x)::τ (eU .i64) 1 x.M4 x.lq::(ew gT bM mv []::ew gT bM mt []::τ aZ 5 bD G::η ms G::η ms ls::τ aZ 5 ad ls::ew gT cz n.mb (ez n.Ψ r x)::h2 I2 n.Ψ::ew gT cC n.mp n.Γ::h2 H6 n.Γ::ew D6 bM n.mr (J7 n.wk)::aT lb S::L)) ?_ ?_
 .refine E.trans (hx:=τ aZ 5 bD G::η ms G::(ew gT cz n.mb (ez n.Ψ r x)::τ (eU .i64) 1 M4 gs::obj bx Pg (NC x)::ew gT bM mv []::ew gT bM mt []::η ms ls::τ aZ 5 ad ls::obj nb C5 (hl lb d F (n.ν+1) n.T n.mb n.mp n.mr)::h2 I2 n.Ψ::ew gT cC n.mp n.Γ::h2 H6 n.Γ::ew D6 bM n.mr (J7 n.wk)::aT lb S::L)) (by simp only[hl,NC];exact aj) ?_;refine(FQ (r:=r) (x:=x)).trans ?_;exact aj
 refine Y.ca (b1) ?_;rintro _ _⟨b8,a2,O,rfl,c3,rfl⟩;have d1:(⟨1,r,0,false,G,bD,id,[],none,0⟩:OK).m=⟨1,r,0,false,ls.map (·.m),[]⟩:=by rw[<-b7];rfl
 rw[d1] at c3;have a5:O.map (·.m)=ck d gs [] ⟨1,r,0,false,ls.map (·.m),[]⟩:=c3;rw[<-a5] at b5 d0 a6 hR;let n1:G2:={ n with ν:=n.ν+1,Ψ:=ez n.Ψ r x }
 have b4:n1.m={ n.m with ν:=n.m.ν+1,Ψ:=ez n.m.Ψ r ⟨ls.map (·.m),gs,C7,[],[],false,false⟩ }:=by
  show({ n with ν:=n.ν+1,Ψ:=ez n.Ψ r x }:G2).m=_;rw[<-e1];exact rF { n with ν:=n.ν+1 } r x
 rw[c1] at b4 hin a6;rw[<-b4] at hin a6 hR;have e0:F0 n1.m=F0 n.m:=by rw[b4];rfl
 have b3:O.length<=1000000:=by
  have e:=congrArg List.length a5;have:=kQ d gs [] ⟨1,r,0,false,ls.map (·.m),[]⟩
  rw[ak] at e;omega
 subst hR;dsimp only;refine WD ?_;intros;refine Y.cM (Ε:=μ be 3 B2 b8 a2 O::η gO O::fh nb lb d F n1 (aT lb S::L)) ?_ ?_
 .refine E.trans (hx:=Oj x (h2 I2 n.Ψ::(μ be 3 B2 b8 a2 O::η gO O::obj nb C5 (hl lb d F (n.ν+1) n.T n.mb n.mp n.mr)::ew gT cz n.mb (ez n.Ψ r x)::ew gT cC n.mp n.Γ::h2 H6 n.Γ::ew D6 bM n.mr (J7 n.wk)::aT lb S::L))) (by simp only[Oj];rw[show Nh x.I8=[] from rfl];exact aj) ?_;refine(MB hn d6 x).trans ?_;simp only[fh];exact aj
 refine Y.ca (nz nb lb d F n1 S υ 2000 (ax _) B b8 a2 O (λy U=>b5 _ (O6 U)) hin D b3 a6) ?_;rintro _ _⟨c5,b0,ds,n2,rfl,d2,d5,rfl⟩;refine WD ?_;intros;exact KX.en ⟨c5,b0,ds,n2,rfl,d2,d5,rfl⟩
end
end Go.Proofs.YtlgpgjdggilkgaaGreatDoor
namespace Go.V
section fv
variable {P:Program}{N:Nat}{env:Env}{L:Ι}{Ρ:F8}{ty:TypeId}
def JJ{σ:Type}(P:Program)(gf:FuncId)(cap:χ)(step:σ->χ->σ->Prop)(fin:σ->Prop)(s₀:σ)(Lg:Ι):Prop :=
 ∀(l:Nat) (J8 Jx:σ->HP),(∀x vs x',step x vs x'->Sp P l vs [J8 x] (λv Ε=>(v=.bool true/\Ε = [J8 x'])\/(v=.bool false/\Ε = [Jx x]))) ->
  Υ P gf (.func (.yield l) #[] #[]::cap).toArray (J8 s₀::Lg) (λ_ Ε=>(∃x,fin x/\Ε = J8 x::Lg)\/∃x,Ε = Jx x::Lg)
theorem Β.f8{g:Operand}{ps:Array Tmp}{assign body:Code}{gf:FuncId}{cap:χ}{σ:Type}{step:σ->χ->σ->Prop}{fin:σ->Prop}{s₀:σ}{Lg:Ι}(it:JJ P gf cap step fin s₀ Lg)(hg:bG env g=some (.func (.func gf) #[] cap.toArray))
  (b2:Enters P gf) (b6:∀p∈ps,p<N) (b5:∀x vs x',step x vs x'->vs.length=ps.size) (G3:σ->Ι) (T:E L (G3 s₀++Lg))
  (a3:∀x vs x',step x vs x'->Β P N assign (TH env (ps.toList.zip vs)) (G3 x) (F8.seq (λa6 Ε=>Β P N body a6 Ε (uX Ρ env Lg (G3 x'))) (λ_ _ _=>False)))
  (a4:∀x,fin x->Ρ .normal env (G3 x++Lg)):Β P N (.rangeFunc g ps assign body) env L Ρ:=by
 intro Δ θ aa a w hr i;obtain⟨ο,ea,hm,s⟩:=i;have s0:Sat θ (G3 s₀++Lg++(E5 ο++aa)) w:=T θ _ w s;-- what is VS same in both cases
 have a5:∀(fn:FuncId) (l H7:Nat) (A:List Nat) (w₁:World),(Instr.enterLoop fn a.tmps ps assign body Δ).run P w=.ok (l,PZ A) w₁ ->
   Sat θ (sh l (.loop { state:=.ready,pending:=none,fn,tmps:=a.tmps,params:=ps,assign,body,defers:=H7 })::(E5 A++(G3 s₀++Lg++(E5 ο++aa)))) w₁ ->
   ∃(l:Nat) (A:List Deferred) (w₁:World) (Ξ:Deferred) (w₁' : World) (f:FuncId) (args:Array Value) (w₂:World),
   (Instr.enterLoop fn a.tmps ps assign body (FW Δ).round).run P w=.ok (l,A) w₁ /\
   (resolve a.eval (rangeCall g l) 0).run P w₁=.ok Ξ w₁' /\
   (∀f',Target.leads P w₁' Ξ.target Ξ.args=some f'->(FW Δ).fn f') /\
   (invoke Ξ.target Ξ.args).run P w₁' = .ok (.enter f args) w₂ /\
   ((FW Δ).depth.isSome=true->1<=0) /\
   CallsIn (FW Δ) (0 - 1) P f args w₂ (rangePost (FW Δ) 0 P l (QK θ aa N Ρ) { a with defers:=A++a.defers }):=by
  intro fn l H7 A w₁ he s1;obtain⟨J,a2⟩:∃J:Loop,J={ state:=.ready,pending:=none,fn,tmps:=a.tmps,params:=ps,assign,body,defers:=H7 }:=⟨_,rfl⟩;rw[<-a2] at s1;have b0:J.state=.ready:=by rw[a2]
  have a9:J.pending=none:=by rw[a2]
  have U:∀x vs x',step x vs x'->Sp P l vs [cw (sh l (.loop J)::G3 x)] (λv Ε=>(v=.bool true/\Ε = [cw (sh l (.loop J)::G3 x')])\/(v=.bool false/\Ε = [hex λx:Code×Ι=>cw (ee (ij Ρ env Lg x.1 x.2)::sh l (.loop { J with state:=.done,pending:=some x.1 })::x.2)])):=by
   intro x vs x' M;refine pq b0 a9 ah (by rw[a2];exact b6) (env:=env) ?_ ?_
   .rw[a2];exact⟨ea.size,ea.at_⟩
   .rw[a2];exact a3 x vs x' M
  have ht:=it l (λx=>cw (sh l (.loop J)::G3 x)) (λ_=>hex λx:Code×Ι=>cw (ee (ij Ρ env Lg x.1 x.2)::sh l (.loop { J with state:=.done,pending:=some x.1 })::x.2)) U;have b3:a.eval g=.func (.func gf) #[] cap.toArray:=aI ea.O4 hg;refine⟨l,PZ A,w₁,{ target:=.fn (.func gf) cap.toArray,args:=#[.func (.yield l) #[] #[]] },w₁,gf,(.func (.yield l) #[] #[]::cap).toArray,w₁,he,?_,λ_ _=>trivial,?_,(λh=>by cases h),mO ?_⟩
  .simp only[resolve,Deferred.ofValue,b3];simp[Act.eval]
  .have:=b2 (.func (.yield l) #[] #[]::cap).toArray w₁
   simpa [invoke] using this
  have s2:Sat θ (cw (sh l (.loop J)::G3 s₀)::Lg++(E5 A++(E5 ο++aa))) w₁:=by
   refine Sat.a8 (Φ:=sh l (.loop J)::G3 s₀) (s1.perm ?_);simp only[aq];refine List.Perm.cons _ ?_;rw[aF];refine TI.trans ?_;refine List.Perm.append_left _ ?_;exact TI
  refine(ht.calls θ _ w₁ s2).mono ?_;rintro e w₂ ⟨v,Ε,rfl,b1,s3⟩;rcases b1 with⟨x,M,rfl⟩|⟨k,rfl⟩
  .have s4:Sat θ (sh l (.loop J)::(G3 x++(Lg++(E5 A++(E5 ο++aa))))) w₂:=Sat.Qd (Φ:=sh l (.loop J)::G3 x) s3;have hh:=s4.M8;refine⟨none,_,(by rw[<-a9];exact jy hh (by rw[b0];simp)),?_⟩;have s5:=(Sat.c7 (QN:={ J with state:=.exhausted }) s4).tail;refine⟨env,G3 x++Lg,⟨A++ο,⟨ea.size,ea.at_⟩,by simp[PZ,hm],?_⟩,a4 x M⟩;have e:E5 (A++ο)++aa=E5 A++(E5 ο++aa):=by simp[E5]
   grind
  .obtain⟨⟨c,L₂⟩,s4⟩:=Sat.Te (L:=Lg++(E5 A++(E5 ο++aa))) s3;have s5:Sat θ (ee (ij Ρ env Lg c L₂)::(sh l (.loop { J with state:=.done,pending:=some c })::(L₂++(Lg++(E5 A++(E5 ο++aa)))))) w₂:=Sat.Qd (Φ:=ee (ij Ρ env Lg c L₂)::sh l (.loop { J with state:=.done,pending:=some c })::L₂) s4;have hj:=s5.Td;have s6:=s5.tail;have hh:=s6.M8;have s7:=(Sat.c7 (QN:={ ({ J with state:=.done,pending:=some c }:Loop) with state:=.exhausted }) s6).tail;refine⟨some c,_,jy hh cg,?_⟩
   have a7:At N env (L₂++Lg) θ aa { a with defers:=PZ A++a.defers } { w₂ with heap:=w₂.heap.setIfInBounds l (.loop { ({ J with state:=.done,pending:=some c }:Loop) with state:=.exhausted }) }:=by
    refine⟨A++ο,⟨ea.size,ea.at_⟩,by simp[PZ,hm],?_⟩;have e:E5 (A++ο)++aa=E5 A++(E5 ο++aa):=by simp[E5]
    rw[e,aF];exact s7
   cases c with
   | ret=>exact wpIn_ret ⟨env,_,a7,hj⟩
   | exit r=>exact wpIn_exit ⟨env,_,a7,hj⟩
   | _=>exact hj.elim
 refine wpIn_rangeFunc λfn _=>?_;cases Δ with
 | none =>
  have s1:=s0.alloc (o:=.deferred (some []));have s2:=s1.alloc (o:=.loop { state:=.ready,pending:=none,fn,tmps:=a.tmps,params:=ps,assign,body,defers:=w.heap.size });refine a5 fn (w.heap.size+1) w.heap.size [w.heap.size] _ jJ ?_;rw[World.size_alloc] at s2;exact s2
 | some l =>
  obtain⟨J,Y',hY⟩:=hr l rfl
  have b4:w.heap[l]? = some (.loop J):=by
   have s1:Sat θ (sh l (.loop J)::(G3 s₀++Lg++(E5 ο++Y'))) w:=s0.perm (by
    have I:(G3 s₀++Lg++(E5 ο++aa)).Perm (G3 s₀++Lg++(E5 ο++(sh l (.loop J)::Y'))):=(hY.append_left _).append_left _;refine I.trans ?_;grind [dN])
   exact s1.M8
  exact a5 fn w.heap.size J.defers [] _ (jI b4) s0.alloc
end fv
end Go.V
namespace Go.Proofs.YtlgpgjdggilkgaaGreatDoor
open Go.V
abbrev S3:Nat:=143
abbrev Zm:Nat:=22
def Su(b:Nat)(ks:List Int)(x:OA×Nat):Ι:=[μ (eU .i64) 1 C3 x.1 x.2 ks,obj b Zm [ae x.1 ks.length x.2]]
def Zn(b:Nat)(ks:List Int):HP:=hex λx=>cw (Su b ks x)
def Mz(m:List (Int×N8))(Ξ:List (Int×N8))(vs:χ)(d' : List (Int×N8)):Prop:=∃p,d' = Ξ++[p]/\p∈m/\p∉Ξ/\Ξ.length<m.length/\vs=[K p.1]
attribute [local irreducible] Β Y GP δ vi GF GE Z Ef C0 E CB GB V.Enters bH K6
def GA{L0:Ι}(bx mb:Nat)(m:List (Int×N8)) :
  JJ Tryz.prog 184 [ay bx] (Mz m) (λΞ=>Ξ.Perm m) [] (obj bx S3 [.map (some mb)]::ew gT cz mb m::L0):=by
 intro i J8 Jx U;refine Υ.bd (args:=[.func (.yield i) #[] #[],ay bx]) ?_;refine ML ?_;intros;refine Y.ef (Ef.j5 rfl) ac ?_;rintro _ _⟨Δ,rfl,rfl⟩;refine ML ?_;intros;refine Β.loop (α:=List (Int×N8)) (λz=>z.length<=m.length) (λz=>[(0,.func (.yield i) #[] #[]),(5,ay Δ)]) (λz=>J8 z::fZ gT cz mb m Δ z::obj bx S3 [.map (some mb)]::L0) (λz=>m.length - z.length) [] (aD _) aG aj ?_;intro z hz;refine ML ?_;intros;refine Y.ef (Ef.j8 rfl) ac ?_;rintro _ _ (⟨rfl,rfl,J⟩|⟨p,rfl,rfl,a2,a3,A⟩)
 .refine ML ?_;intros;refine KX.c8 aC ?_ (.inl ⟨z,J,rfl⟩);refine(E.at (Φ:=fZ gT cz mb m Δ z) E.j9).trans ?_;exact aj
 have a4:=U z [K p.1] (z++[p]) ⟨p,rfl,a2,a3,A,rfl⟩;refine ML ?_;intros;refine Y.ev (Z.j7 (done:=z) rfl rfl) ac ?_;refine ML ?_;intros;refine Y.cM (Ε:=J8 z::(fZ gT cz mb m Δ (z++[p])::obj bx S3 [.map (some mb)]::L0)) aj ?_;((with_reducible apply Y.a8);refine Y.TG (C0.yield (a4) rfl rfl fT) ac ?_);rintro _ _⟨_,(⟨rfl,rfl⟩|⟨rfl,rfl⟩),hL⟩
 .simp only[aq,av] at hL;subst hL;refine ML ?_;intros;refine⟨z++[p],by simp;omega,by simp;omega,aG,by exact aj⟩
 .simp only[aq,av] at hL;subst hL;refine ML ?_;intros;refine KX.a8 aC ?_ (.inr ⟨z,rfl⟩);refine(E.at (Φ:=fZ gT cz mb m Δ (z++[p])) E.j9).trans ?_;exact aj
def uW{L:Ι}(bx mb:Nat)(m:List (Int×N8))(hm:m.length<=1000000) :
  Υ Tryz.prog 183 #[ae none 0 0,.func (.func 184) #[] #[ay bx]] (obj bx S3 [.map (some mb)]::ew gT cz mb m::L) (λv Ε=>∃ad cap ks,v=ae ad ks.length cap/\ks.Perm (m.map (·.1))/\Ε = μ (eU .i64) 1 C3 ad cap ks::obj bx S3 [.map (some mb)]::ew gT cz mb m::L):=by
 refine Υ.bd ?_;refine ML ?_;intros;rename_i b2;refine Β.f8 (GA (L0:=L) bx mb m) rfl YY.1 ac (by rintro x vs x' ⟨p,_,_,_,_,rfl⟩;rfl) (λΞ=>[Zn b2 (Ξ.map (·.1))]) ?_ ?_ ?_
 .simp only[aq,av,bu];refine E.trans ?_ (E.f9 (none,0) (f:=Su b2 []) (E.refl _));simp only[Su,bq,aq,av];refine E.trans (E.c8 (eU .i64) 1 C3) ?_;exact aj
 .rintro Ξ vs d' ⟨p,rfl,a5,a6,a4,rfl⟩;have a2:(Ξ.map (·.1)).length<=1000000:=by rw[ak];omega
  rw[aQ];show Β _ _ _ ((7,K p.1)::_) _ _;rw[show[p].map (·.1)=[p.1] from rfl];generalize Ξ.map (·.1)=an at a2;generalize p.1=k;refine Β.c9 (f:=Su b2 an) ?_;rintro⟨a3,c1⟩;simp only[Su,aq,av];refine ML ?_;intros;refine Y.ef (Ef.a8 (Η:=eU .i64) (e:=k) rfl rfl rfl rfl rfl aY (iq _ _) D D) ac ?_;rintro _ _⟨J,A,rfl,rfl⟩;refine ML ?_;intros;refine KX.round ?_;refine E.trans ?_ (E.f9 (J,A) (f:=Su b2 (an++[k])) (E.refl _));simp only[Su,aq,av];exact aj
 intro Ξ hd;have hp:(Ξ.map (·.1)).Perm (m.map (·.1)):=hd.map _;generalize Ξ.map (·.1)=an at *;simp only[aq,av];refine KX.c7 ?_;refine ML ?_;intros;refine Y.c8 (f:=Su b2 an) ?_;rintro⟨J,A⟩;simp only[Su,aq,av];refine ML ?_;intros;refine KX.a8 aC ?_ ⟨J,A,an,rfl,hp,rfl⟩;exact aj
def tG{L:Ι}(bx mb:Nat)(m:List (Int×N8))(hm:m.length<=1000000) :
  Υ Tryz.prog 124 #[.func (.func 184) #[] #[ay bx]] (obj bx S3 [.map (some mb)]::ew gT cz mb m::L) (λv Ε=>∃ad cap ks,v=ae ad ks.length cap/\ks.Perm (m.map (·.1))/\Ε = μ (eU .i64) 1 C3 ad cap ks::obj bx S3 [.map (some mb)]::ew gT cz mb m::L):=by
 refine Υ.bd ?_;refine ML ?_;intros;refine Y.ca (uW bx mb m hm) ?_;rintro _ _⟨A,c1,ks,rfl,J,rfl⟩;refine ML ?_;intros;exact KX.en ⟨A,c1,ks,rfl,J,rfl⟩
def zg{L:Ι}(mb:Nat):Υ Tryz.prog 125 #[.map (some mb)] L (λv Ε=>∃bx,v=.func (.func 184) #[] #[ay bx]/\Ε = obj bx S3 [.map (some mb)]::L):=by
 refine Υ.bd ?_;refine ML ?_;intros;rename_i bx;exact KX.en ⟨bx,rfl,rfl⟩
end Go.Proofs.YtlgpgjdggilkgaaGreatDoor
namespace Go.Proofs
open Go.Shelf
def Tryz.Zo:Go.Shelf.Ren:=⟨λ|189=>126|125=>121|257=>185|128=>181|129=>182|294=>260|295=>261|296=>262|297=>263|298=>264|299=>265|216=>266|300=>267|301=>268|328=>296|329=>256|330=>257|331=>297|332=>298|215=>122|343=>310|n=>n,λ|28=>22|3=>3|46=>61|0=>0|51=>291|53=>293|4=>4|183=>285|182=>284|131=>206|5=>5|9=>9|218=>348|222=>352|228=>380|229=>381|n=>n,λ|n=>n⟩
def Tryz.Xw:Go.Proofs.Lays.n189 Tryz.prog Tryz.Zo:={
 mixed:=by kernel_rfl
 f125:=Tryz.func121.trans (congrArg some (by kernel_rfl))
 f128:=Tryz.func181.trans (congrArg some (by kernel_rfl))
 f129:=Tryz.func182.trans (congrArg some (by kernel_rfl))
 f189:=Tryz.func126.trans (congrArg some (by kernel_rfl))
 f215:=Tryz.func122.trans (congrArg some (by kernel_rfl))
 f216:=Tryz.func266.trans (congrArg some (by kernel_rfl))
 f257:=Tryz.func185.trans (congrArg some (by kernel_rfl))
 f294:=Tryz.func260.trans (congrArg some (by kernel_rfl))
 f295:=Tryz.func261.trans (congrArg some (by kernel_rfl))
 f296:=Tryz.func262.trans (congrArg some (by kernel_rfl))
 f297:=Tryz.func263.trans (congrArg some (by kernel_rfl))
 f298:=Tryz.func264.trans (congrArg some (by kernel_rfl))
 f299:=Tryz.func265.trans (congrArg some (by kernel_rfl))
 f300:=Tryz.func267.trans (congrArg some (by kernel_rfl))
 f301:=Tryz.func268.trans (congrArg some (by kernel_rfl))
 f328:=Tryz.func296.trans (congrArg some (by kernel_rfl))
 f329:=Tryz.func256.trans (congrArg some (by kernel_rfl))
 f330:=Tryz.func257.trans (congrArg some (by kernel_rfl))
 f331:=Tryz.func297.trans (congrArg some (by kernel_rfl))
 f332:=Tryz.func298.trans (congrArg some (by kernel_rfl))
 f343:=Tryz.func310.trans (congrArg some (by kernel_rfl))
 t0:=Tryz.underlying0
 a0:=Tryz.isAgg0
 z0:=Tryz.sizeOf0
 v0:=Tryz.zeroValue0
 t3:=Tryz.underlying3
 a3:=Tryz.isAgg3
 z3:=Tryz.sizeOf3
 v3:=Tryz.zeroValue3
 t4:=Tryz.underlying4
 a4:=Tryz.isAgg4
 z4:=Tryz.sizeOf4
 v4:=Tryz.zeroValue4
 t5:=Tryz.underlying5
 a5:=Tryz.isAgg5
 z5:=Tryz.sizeOf5
 v5:=Tryz.zeroValue5
 t9:=Tryz.underlying9
 a9:=Tryz.isAgg9
 z9:=Tryz.sizeOf9
 v9:=Tryz.zeroValue9
 t28:=Tryz.underlying22
 a28:=Tryz.isAgg22
 z28:=Tryz.sizeOf22
 v28:=Tryz.zeroValue22
 t46:=Tryz.underlying61
 a46:=Tryz.isAgg61
 z46:=Tryz.sizeOf61
 v46:=Tryz.zeroValue61
 t51:=Tryz.underlying291
 a51:=Tryz.isAgg291
 z51:=Tryz.sizeOf291
 v51:=Tryz.zeroValue291
 t53:=Tryz.underlying293
 a53:=Tryz.isAgg293
 z53:=Tryz.sizeOf293
 v53:=Tryz.zeroValue293
 t131:=Tryz.underlying206
 a131:=Tryz.isAgg206
 z131:=Tryz.sizeOf206
 v131:=Tryz.zeroValue206
 t182:=Tryz.underlying284
 a182:=Tryz.isAgg284
 z182:=Tryz.sizeOf284
 v182:=Tryz.zeroValue284
 t183:=Tryz.underlying285
 a183:=Tryz.isAgg285
 z183:=Tryz.sizeOf285
 v183:=Tryz.zeroValue285
 t218:=Tryz.underlying348
 a218:=Tryz.isAgg348
 z218:=Tryz.sizeOf348
 v218:=Tryz.zeroValue348
 t222:=Tryz.underlying352
 a222:=Tryz.isAgg352
 z222:=Tryz.sizeOf352
 v222:=Tryz.zeroValue352
 t228:=Tryz.underlying380
 a228:=Tryz.isAgg380
 z228:=Tryz.sizeOf380
 v228:=Tryz.zeroValue380
 t229:=Tryz.underlying381
 a229:=Tryz.isAgg381
 z229:=Tryz.sizeOf381
 v229:=Tryz.zeroValue381 }
open Go.Sort Go.RowKit in
def Tryz.slices_Sort_int(blk off cap:Nat)(zs:List Int)(w:World)(hH:Holds (Value.int .i64) w blk off zs.toArray)(A:blk<w.heap.size)(J:zs.length<4611686018427387904) :
  Calls Tryz.prog 126 #[.slice (some ⟨blk,off,none⟩) zs.length cap] w λe dH =>
   e=.returned (.tuple #[])/\∃n os,dH = grow (putRow (Value.int .i64) (Sort.ahead w n) blk off (zs.mergeSort λx y=>decide (x<=y)).toArray) os:=Any.slices_Sort_int Tryz.Xw blk off cap zs w hH A J
open Go.RowKit Go.Sort in
def Tryz.slices_Sort_int_none(p:Option Addr)(cap:Nat)(w:World) :
  Calls Tryz.prog 126 #[.slice p 0 cap] w λe dH=>e=.returned (.tuple #[])/\dH = w:=Any.slices_Sort_int_none Tryz.Xw p cap w
