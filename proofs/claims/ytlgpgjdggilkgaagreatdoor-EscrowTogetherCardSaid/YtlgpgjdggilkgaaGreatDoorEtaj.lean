/- Lemmas. -/
import Derived.Test.YtlgpgjdggilkgaaGreatDoorEtai
set_option linter.all false
set_option maxHeartbeats 1000000
namespace Go.Proofs.YtlgpgjdggilkgaaGreatDoor
section
open Go.V
theorem KX{α:Type}{Ε:α->τ}{sz:Nat}{ad:OA}{I:List α}{cap:Nat}(hc:I.length<=cap)(k:Nat){L:Η}:F (ξ Ε sz ad I::L) (ξ Ε sz (N2 ad cap sz k) (I.drop k)::L):=by
 refine F.o0 λθ R w s=>?_;obtain⟨ok,ι,h,a,b1,c,G6,E4,D4,d1,d2,d3,d4,⟨e1,e2⟩,d6⟩:=s;refine⟨ok,ι,h,a,b1,c,G6,E4,D4,d1,d2,d3,d4,⟨λx O=>aj,?_⟩,d6⟩;rcases e2 with rfl|⟨g,off,M,η,fz,rfl,f1,f2⟩
 .grind
 by_cases hk:I.length<=k
 .exact .inl (List.drop_eq_nil_of_le hk)
 .right;have a2:¬cap=k:=D;refine⟨g,off+k*sz,M,η,fz,?_,f1,?_⟩
  .grind [N2,iR]
  .intro i v hv
   have B:∀(l:List α) (k:Nat),(∀x∈l,(Ε x).length=sz)->(l.drop k).flatMap Ε=(l.flatMap Ε).drop (k*sz):=by
    intro l;induction l with
    | nil=>intro k _;simp
    | cons y l ih =>
     intro k U;cases k with
     | zero=>simp
     | succ k =>
      have Y:=U y cj;simp only[List.drop_succ_cons,aT];have K:(Ε y).drop ((k+1)*sz)=[]:=by grind [bU]
      rw[ih k aj,List.drop_append,K,Y,ic,Nat.add_sub_cancel,ax]
   grind
abbrev Tm(b:Nat)(cN:List Int)(err:Int)(x:SQ)(L:Η):Η:=ee (cN.length<=x.cap)::obj b 363 [ah x.ad cN.length x.cap,J err]::ξ (dJ .u8) 1 x.ad cN::L
def OH(b:Nat)(cN:List Int)(B:Int):HP:=hex λx:SQ=>cx (Tm b cN B x [])
def gz{b:Nat}{cN:List Int}{B:Int}{L:Η}(x:SQ)(h:cN.length<=x.cap):F (obj b 363 [ah x.ad cN.length x.cap,J B]::ξ (dJ .u8) 1 x.ad cN::L) (OH b cN B::L):=F.f8 (f:=λx=>Tm b cN B x []) x (F.pure h (F.refl _))
attribute [local irreducible] Α GO GP δ ms GF GE Ev Ef C0 F CB GB V.Enters
def FR{L:Η}(ad:OA)(n c:Nat)(I:List Int)[hrd:F2 L ad Int (dJ .u8) 1 I](hn:n=I.length)(hm:n<=1000000000) :
  Τ Θ 197 #[ah ad n c] L (λv Γ=>∃b,v=av b/\Γ = OH b I 0::L):=by
 refine Τ.bd ?_;refine Nd ?_;intros;refine GO.ca (sD _ _ _ I hn hm) ?_;rintro _ _⟨M,B,rfl,rfl⟩;refine GO.g8 (mW (ad:=M)) ?_;rintro⟨a2,_⟩;refine Nd ?_;intros;rename_i b;refine KX.a8 aF ?_ ⟨b,rfl,rfl⟩;refine F.trans ?_ (gz ⟨M,0,B⟩ a2);exact F.c7 F.N9
def Qp(cN:List Int)(B:Int):Int×List Int×Int:=if B≠0 then(0,cN,B) else match cN with
 | []=>(0,[],3)
 | b::t=>(b,t,0)
theorem uo{L:Η}(b:Nat)(cN:List Int)(M:Int) :
  Τ Θ 282 #[av b] (OH b cN M::L) (F3 (.int .u8 (Qp cN M).1) (OH b (Qp cN M).2.1 (Qp cN M).2.2::L)):=by
 refine Τ.bd ?_;refine Α.c9 (f:=λx=>Tm b cN M x []) ?_;intro x;simp only[au,ax];refine Α.d7 ?_;intro B;by_cases he:M=0
 case neg =>
  refine Nd ?_;intros;refine KX.a8 aF (gz x B) ⟨?_,?_⟩
  .simp[Qp,he,Pt]
  .simp[Qp,he]
 subst he;cases cN with
 | nil =>
  refine Nd ?_;intros;exact KX.a8 aF (gz x B) ⟨by simp[Qp,Pt],by simp[Qp]⟩
 | cons y t =>
  have a3:(y::t).length=t.length+1:=rfl;have a2:((y::t).length:Int)=t.length+1:=by simp
  refine Nd ?_;intros;refine KX.a8 aF ?_ ⟨by simp[Qp,Pt],rfl⟩;rw[show Qp (y::t) 0=(y,t,0) by simp[Qp]];refine F.trans ?_ (gz ⟨N2 x.ad x.cap 1 1,0,x.cap - 1⟩ aj);exact F.c7 (KX (I:=y::t) B 1)
def KM{cN:List Int}{B:Int}(h:B≠0):Qp cN B=(0,cN,B):=by simp[Qp,h]
def iG(cN:List Int)(B:Int):Nat×List Int×Int:=if B≠0 then(0,cN,B) else((QE cN 0 0).1,(QE cN 0 0).2.2,(QE cN 0 0).2.1)
def uh{L:Η}(b:Nat)(cN:List Int)(a2:Int)(hb:iA cN) :
  Τ Θ 281 #[av b] (OH b cN a2::L) (F3 (.int .u64 (iG cN a2).1) (OH b (iG cN a2).2.1 (iG cN a2).2.2::L)):=by
 refine Τ.bd ?_;refine Nd ?_;intros;refine Α.loop (α:=Nat×Nat×List Int) (λg=>g.1<=9/\g.2.1<128 ^ g.1/\iA g.2.2/\(a2=0->QE g.2.2 g.1 g.2.1=QE cN 0 0)/\(a2≠0->g.2.2=cN)) (λg=>[(0,av b),(3,.int .u64 (g.2.1:Int)),(4,J (g.1:Int))]) (λg=>OH b g.2.2 a2::L) (λg=>9 - g.1) (0,0,cN) ⟨by simp,by simp,hb,λ_=>rfl,λ_=>rfl⟩ aD (F.refl _) ?_;rintro⟨i,acc,l⟩ ⟨hi,ha,U,hr,a3⟩;simp only[] at hi ha U hr a3 ⊢;refine Nd ?_;intros;refine GO.ef (Ef.j9 (uo b l a2) rfl) ae ?_;rintro _ _⟨rfl,rfl⟩;by_cases he:a2=0
 case neg =>
  rw[KM he,a3 he];refine Nd ?_;intros;refine GO.c8 (f:=λx=>Tm b cN a2 x []) ?_;intro x;simp only[au,ax];refine GO.d7 ?_;intro B;refine Nd ?_;intros;exact KX.a8 aF (gz x B) ⟨by simp[iG,he,Pt],by simp[iG,he]⟩
 subst he;have hrd:=hr rfl;clear hr a3;cases l with
 | nil =>
  rw[show Qp [] 0=(0,[],3) by simp[Qp]];refine Nd ?_;intros;refine GO.c8 (f:=λx=>Tm b [] 3 x []) ?_;intro x;simp only[au,ax];refine GO.d7 ?_;intro B;refine Nd ?_;intros
  have e:iG cN 0=(0,[],3):=by
   simp only[iG,<-hrd];simp[QE]
  exact KX.a8 aF (gz x B) ⟨by rw[e];rfl,by rw[e]⟩
 | cons y t =>
  rw[show Qp (y::t) 0=(y,t,0) by simp[Qp]];have Y:=U y cj;have ht:iA t:=λx O=>U x (az _ O);refine Nd ?_;intros;refine GO.c8 (f:=λx=>Tm b t 0 x []) ?_;intro x;simp only[au,ax];refine GO.d7 ?_;intro B;by_cases M:(i=9/\1<y)\/(0<i/\y=0)
  .have e:iG cN 0=(0,t,2):=by
    simp only[iG,<-hrd,QE];simp[M]
   rcases M with⟨h9,K⟩|⟨h9,K⟩
   .refine Nd ?_;intros;exact KX.a8 aF (gz x B) ⟨by rw[e];rfl,by rw[e]⟩
   .by_cases a9:i=9
    .refine Nd ?_;intros;exact KX.a8 aF (gz x B) ⟨by rw[e];rfl,by rw[e]⟩
    .refine Nd ?_;intros;exact KX.a8 aF (gz x B) ⟨by rw[e];rfl,by rw[e]⟩
  have hp:=nS hi;obtain⟨yN,a7⟩:∃yN:Nat,y=(yN:Int):=⟨y.toNat,D⟩;subst a7;have hm:=dX yN (show 0<128 by decide)
  have a5:yN % 128*128 ^ i<18446744073709551616:=by
   by_cases h9:i=9
   .subst h9;have T:yN<=1:=D;have h3:yN % 128*128 ^ 9<=1*128 ^ 9:=bR _ D;omega
   .have h3:yN % 128*128 ^ i<=127*128 ^ i:=bR _ D;have b1:(128:Nat) ^ (i+1)<=9223372036854775808:=nS D;have a6:(128:Nat) ^ (i+1)=128 ^ i*128:=Nat.pow_succ ..;omega
  repeat first|refine Α.sm 7 ?_|refine dA ?_|intro
  refine Α.c7 (α:=Unit) (λ_=>True) (λ_=>[(0,av b),(3,.int .u64 (acc:Int)),(4,J (i:Int)),(5,.int .u8 (yN:Int))]) (λ_=>OH b t 0::L) ?_ ?_
  .by_cases h9:i=9
   .refine Nd ?_;intros;exact⟨(),trivial,aD,gz x B⟩
   .by_cases h0:i=0
    .refine Nd ?_;intros;exact⟨(),trivial,aD,gz x B⟩
    .refine Nd ?_;intros;exact⟨(),trivial,aD,gz x B⟩
  rintro _ _;refine Nd ?_;intros;refine GO.ev (Ev.A6 rfl rfl D D ae ae) ae ?_;rw[bD,show(127:Int).toNat=127 from rfl,Mx yN D];refine Nd ?_;intros;refine GO.ev (Ev.shl rfl rfl D) ae ?_
  have e1:IntKind.u64.wrap (((yN % 128:Nat):Int)*2 ^ min (7*(i:Int)).toNat IntKind.u64.bits)=((yN % 128*2 ^ (7*i) % 18446744073709551616:Nat):Int):=by
   rw[IntKind.wrap_u64,show min (7*(i:Int)).toNat IntKind.u64.bits=7*i by simp[IntKind.bits];omega];simp
  have b0:=dX (yN % 128*2 ^ (7*i)) (show 0<18446744073709551616 by decide);rw[e1];refine GO.ev (Ev.y7 rfl rfl D D D D) ae ?_;rw[bD,bD,IE ha a5];by_cases a4:yN<128
  .refine Nd ?_;intros
   have e:iG cN 0=(acc+yN % 128*128 ^ i,t,0):=by
    rw[iG,Ν cj,<-hrd];simp only[QE];rw[Ν M,Χ D,bD]
   exact KX.a8 aF (F.refl _) ⟨by rw[e];rfl,by rw[e]⟩
  .refine Nd ?_;intros
   have h9:i≠9:=by
    intro h9;exact M (.inl ⟨h9,D⟩)
   have a6:(128:Nat) ^ (i+1)=128 ^ i*128:=Nat.pow_succ ..;have h3:yN % 128*128 ^ i<=127*128 ^ i:=bR _ D;refine⟨(i+1,acc+yN % 128*128 ^ i,t),⟨by simp only[];omega,by simp only[];omega,ht,λ_=>?_,λh=>hD rfl h⟩,by simp only[];omega,?_,F.refl _⟩
   .simp only[];rw[<-hrd];simp only[QE];rw[Ν M,Ν D,bD]
   .simp only[];rw[show(((i+1:Nat)):Int)=(i:Int)+1 by omega];exact aD
theorem Is{cN:List Int}(B:Int)(h:iA cN):(iG cN B).1<18446744073709551616:=by
 grind [iG,FS]
theorem BS(a:Nat)(ha:a<9223372036854775808):bits .xor .i64 (a:Int) (-1) = -1 - (a:Int):=by
 grind [bits,i64_not]
theorem zx(a:Nat)(ha:a<9223372036854775808):bits .xor .i64 (a:Int) 0=(a:Int):=by
 show IntKind.i64.wrap ((BitVec.ofInt 64 (a:Int) ^^^ BitVec.ofInt 64 0).toNat:Int)=_;grind [IntKind.wrap_i64]
theorem wU(u:Nat)(hu:u<18446744073709551616) :
  Τ Θ 280 #[.int .u64 u] [] (λv L=>v=J (UL u)/\L=[]):=by
 refine Τ.bd (args:=[.int .u64 (u:Int)]) ?_;refine Nd ?_;intros;refine GO.ev (Ev.shr rfl rfl ae) ae ?_
 have e2:((u:Nat):Int).fdiv (2 ^ min ((1:Int).toNat) IntKind.u64.bits)=((u / 2:Nat):Int):=by
  rw[dM _ ae];simp[IntKind.bits]
 rw[e2];refine Nd ?_;intros;refine GO.ev (Ev.x8 rfl rfl D D ae ae) ae ?_;rw[bD,show(1:Int).toNat=1 from rfl,Nat.and_one_is_mod];refine Nd ?_;intros;by_cases h:u % 2=1
 .rw[h];refine GO.ev (Ev.bits cj rfl rfl) ae ?_;rw[show(-((1:Nat):Int)) = -1 from rfl,BS (u / 2) D];refine Nd ?_;intros;exact KX.a8 aF (F.refl _) (by grind [Pt,UL])
 .rw[show u % 2=0 by omega];refine GO.ev (Ev.bits cj rfl rfl) ae ?_;rw[show(-((0:Nat):Int))=0 from rfl,zx (u / 2) D];refine Nd ?_;intros;exact KX.a8 aF (F.refl _) (by grind [Pt,UL])
def FT{L:Η}(b:Nat)(cN:List Int)(B:Int)(hb:iA cN) :
  Τ Θ 198 #[av b] (OH b cN B::L) (F3 (J (UL (iG cN B).1)) (OH b (iG cN B).2.1 (iG cN B).2.2::L)):=by
 refine Τ.bd ?_;refine Nd ?_;intros;refine GO.ef (Ef.j9 (uh b cN B hb) rfl) ae ?_;rintro _ _⟨rfl,rfl⟩;(first|refine GO.ef (Ef.call (wU _ (Is B hb)) rfl fQ) ae ?_);rintro _ _⟨_,⟨rfl,rfl⟩,hL⟩;simp only[au,ax] at hL;subst hL;refine Nd ?_;intros;exact KX.en ⟨rfl,rfl⟩
def FU{L:Η}(b:Nat)(cN:List Int)(M:Int) :
  Τ Θ 201 #[av b] (OH b cN M::L) (F3 (J (if M≠0 then M else if cN=[] then 0 else 2)) (OH b cN M::L)):=by
 refine Τ.bd ?_;refine Α.c9 (f:=λx=>Tm b cN M x []) ?_;intro x;simp only[au,ax];refine Α.d7 ?_;intro B;by_cases he:M=0
 case neg =>
  refine Nd ?_;intros;exact KX.a8 aF (gz x B) ⟨by simp[he,Pt],rfl⟩
 cases cN with
 | nil =>
  refine Nd ?_;intros;exact KX.a8 aF (gz x B) ⟨by simp[he,Pt],rfl⟩
 | cons y t =>
  have a2:(y::t).length=t.length+1:=rfl;refine Nd ?_;intros;exact KX.a8 aF (gz x B) ⟨by simp[he,Pt],rfl⟩
theorem yh{n:Nat}(h:n<18446744073709551616)(t:List Int):iG (uv n++t) 0=(n,t,0):=by
 grind [iG,KB]
theorem kX{L:Η}(b:Nat)(n:Int)(t:List Int)(h0:vi n)(hb:iA t) :
  Τ Θ 198 #[av b] (OH b (uv (zz n)++t) 0::L) (F3 (J n) (OH b t 0::L)):=by
 have h:=FT (L:=L) b (uv (zz n)++t) 0 (by grind [ly]);rw[yh (kR h0.1 h0.2)] at h;rw[Kj] at h;exact h
def AL{L:Η}(b:Nat)(q:Bool)(t:List Int) :
  Τ Θ 199 #[av b] (OH b ((if q=true then 1 else 0)::t) 0::L) (F3 (.bool q) (OH b t 0::L)):=by
 refine Τ.bd ?_;refine Nd ?_;intros;refine GO.cr (uo b ((if q=true then 1 else 0)::t) 0) ?_;rw[show Qp ((if q=true then 1 else 0)::t) 0=((if q=true then 1 else 0),t,0) by simp[Qp]];cases q with
 | true =>
  refine Nd ?_;intros;exact KX.a8 aF (F.refl _) ⟨by rw[bN cj];rfl,rfl⟩
 | false =>
  refine Nd ?_;intros;exact KX.a8 aF (F.refl _) ⟨by rw[bB cj];rfl,rfl⟩
end
section
open Go.V
attribute [local irreducible] Α GO GP δ ms Ev Ef C0 F CB GB Enters
def J9(l:h2):Prop:=0<=l.1/\0<=l.2.1/\0<=l.2.2/\l.2.1+l.2.2<=1099511627776
def a0.w{l:h2}(h:a0 l):J9 l:=by unfold a0 at h;unfold J9;omega
def lM(x b:h2):Prop:=[x.1,x.2.1,0]=[b.1,b.2.1+b.2.2,0]
instance (x b:h2):Decidable (lM x b):=by unfold lM;infer_instance
theorem TL{x b:h2}:lM x b↔x.1=b.1/\x.2.1=b.2.1+b.2.2:=by simp[lM]
def bH(l:ο)(x:h2):ο :=
 if x.2.2=0 then l else if l.length≠0/\lM x l[l.length - 1]! then l.set (l.length - 1) (l[l.length - 1]!.1,l[l.length - 1]!.2.1,l[l.length - 1]!.2.2+x.2.2) else l++[x]
theorem qH(l:ο)(x:h2):(bH l x).length<=l.length+1:=by
 grind [bH]
theorem CE{l:ο}{x:h2}(h:∀y∈l,J9 y)(O:J9 x):∀y∈bH l x,J9 y:=by
 grind [bH,TL,bA,J9]
theorem ky{I:ο}:∀{l:ο},(∀y∈l,J9 y)->(∀y∈I,J9 y)->∀y∈I.foldl bH l,J9 y:=by
 induction I with
 | nil=>grind
 | cons x I ih =>
  grind [CE,aA]
theorem iV(I:ο):∀l:ο,(I.foldl bH l).length<=l.length+I.length:=by
 induction I with
 | nil=>intro l;simp
 | cons x I ih =>
  grind [qH]
def ER{L:Η}(x b:h2)(hb:J9 b):Τ Θ 305 #[bF (aL x),bF (aL b)] L (F3 (.bool (dB (lM x b))) L):=by
 unfold J9 at hb;refine Τ.bd ?_;refine Nd ?_;intros;exact KX.en ⟨rfl,rfl⟩
abbrev DO:=Zb [.ev 8,.ef 9,.ev 10]
abbrev DN:=Zc [.ev 10,.ef 11]
def Nf{φ ψ:Prop}(k:ψ)(h:Hid ψ->φ:=by intro k;(repeat (first|refine ab ?_|intro B6|refine Α.dr 39 4 DO ?_|refine Α.dr 39 5 DN ?_));(repeat revert B6);exact Hid.out k):φ:=h ⟨k⟩
theorem qS{L:Η}(ad:OA)(cap:Nat)(I:ο)(x:h2)(U:I.length<=100000000)(a6:∀y∈I,J9 y)(O:J9 x) :
  Τ Θ 278 #[ah ad I.length cap,bF (aL x)] (Ω aL 3 I7 ad cap I::L) (λv Γ=>∃a5 M,v=ah a5 (bH I x).length M/\Γ = Ω aL 3 I7 a5 M (bH I x)::L):=by
 refine Τ.bd ?_;by_cases h0:x.2.2=0
 .have e:bH I x=I:=by unfold bH;rw[Χ h0]
  rw[e];refine Nf ?_;intros;exact KX.en ⟨ad,cap,rfl,rfl⟩
 by_cases K:I.length=0
 .have e:bH I x=I++[x]:=by unfold bH;rw[Ν h0,Ν D]
  rw[e];refine Nf ?_;intros;refine GO.ef (Ef.a8 (Ε:=aL) (e:=x) rfl rfl rfl rfl rfl bh (fX _) D D) ae ?_;rintro _ _⟨a2,B,rfl,rfl⟩;refine Nf ?_;intros;exact KX.en ⟨a2,B,rfl,rfl⟩
 have a3:((I.length:Int) - 1).toNat=I.length - 1:=D;have a4:=a6 _ (bA (D:I.length - 1<I.length));rw[<-a3] at a4;refine Nf ?_;intros;refine δ.cr (ER x I[((I.length:Int) - 1).toNat]! a4) ?_;by_cases hc:lM x I[((I.length:Int) - 1).toNat]!
 .have a7:=TL.1 hc;rw[bN hc];unfold J9 at a4 O;refine Nf ?_;intros;refine δ.NH (Ef.d7 (e:=((I[((I.length:Int) - 1).toNat]!.1,I[((I.length:Int) - 1).toNat]!.2.1,I[((I.length:Int) - 1).toNat]!.2.2+x.2.2):h2)) rfl rfl bh rfl D ae) ?_;rintro _ _ rfl
  have e:bH I x=I.set ((I.length:Int) - 1).toNat (I[((I.length:Int) - 1).toNat]!.1,I[((I.length:Int) - 1).toNat]!.2.1,I[((I.length:Int) - 1).toNat]!.2.2+x.2.2):=by
   unfold bH;rw[a3] at hc ⊢;rw[Ν h0,Χ ⟨K,hc⟩]
  rw[e];refine Nf ?_;intros;exact KX.a8 aF ak ⟨ad,cap,by rw[bT];rfl,rfl⟩
 .rw[bB hc]
  have e:bH I x=I++[x]:=by
   unfold bH;rw[a3] at hc;rw[Ν h0,Ν aj]
  rw[e];refine Nf ?_;intros;refine GO.ef (Ef.a8 (Ε:=aL) (e:=x) rfl rfl rfl rfl rfl bh (fX _) D D) ae ?_;rintro _ _⟨a2,B,rfl,rfl⟩;refine Nf ?_;intros;exact KX.en ⟨a2,B,rfl,rfl⟩
def Wq(x:h2)(c:Int):h2:=(x.1,x.2.1,c)
def VR(x:h2)(c:Int):h2:=(x.1,x.2.1+c,x.2.2 - c)
def TM(l:ο)(cs:Nat->Int)(k:Nat):h2:=Wq l[k]! (cs k)
def RU(l:ο)(cs:Nat->Int)(k:Nat):h2:=VR l[k]! (cs k)
def Tn(l:ο)(cs:Nat->Int)(k:Nat):τ:=if k % 2=0 then[bF (aL (TM l cs (k / 2))),.bool true] else[bF (aL (RU l cs (k / 2))),.bool false]
def UM(l:ο)(cs:Nat->Int):List (τ):=(List.range (2*l.length)).map (Tn l cs)
def pD(l:ο)(cs:Nat->Int):(UM l cs).length=2*l.length:=by simp[UM]
def yJ{l:ο}{cs:Nat->Int}{k:Nat}(h:k<(UM l cs).length):(UM l cs)[k]=Tn l cs k:=by simp[UM]
def uW(g:FuncId)(cap:τ)(n:Nat)(cs:Nat->Int)(C:Nat->HP):Prop:=∀k,k<n->∀L:Η,Τ Θ g (([]++[Value.int .i64 (k:Int)]++cap:τ)).toArray (C k::L) (F3 (J (cs k)) (C (k+1)::L))
abbrev gu:Nat:=35
abbrev Xu:Nat:=48
theorem BJ(bx bf g:Nat)(cap:τ)(ad:OA)(c:Nat)(l:ο)(cs:Nat->Int)(C:Nat->HP)(hm:l.length<=1000000)(hw:∀x∈l,J9 x)(hc:∀k,k<l.length->0<=cs k/\cs k<=l[k]!.2.2)(hC:uW g cap l.length cs C) :
  Ft Θ 332 [av bx,av bf] (UM l cs) [obj bx gu [ah ad l.length c],obj bf Xu [.func (.func g) #[] cap.toArray],C 0,ξ aL 3 ad l] []:=by
 intro i J7 Jx Y;rw[pD]
 have M : ∀k (hk:k<2*l.length),SS Θ i (Tn l cs k) [J7 k] (λv Γ=>(v=.bool true/\Γ = [J7 (k+1)])\/(v=.bool false/\Γ = [Jx k])):=by
  intro k hk;have h:=Y k (by rw[pD];exact hk);rw[yJ] at h;exact h
 clear Y;refine Τ.bd (args:=[.func (.yield i) #[] #[],av bx,av bf]) ?_;refine Nd ?_;intros;refine Α.loop (α:=Nat) (λk=>k<=l.length) (λk=>[(0,.func (.yield i) #[] #[]),(1,av bx),(2,av bf),(7,ah ad l.length c),(8,J l.length),(9,J (k:Int))]) (λk=>[J7 (2*k),obj bx gu [ah ad l.length c],obj bf Xu [.func (.func g) #[] cap.toArray],C k,ξ aL 3 ad l]) (λk=>l.length - k) 0 D aD (F.refl _) ?_;intro k hk;by_cases B:k<l.length
 case neg =>
  have a5:k=l.length:=D;refine Nd ?_;intros;refine KX.c8 aF (F.c7 (F.nil _)) (.inl ?_);rw[a5]
 have a4:(k:Int).toNat=k:=D;have a6:=hw _ (bA B);have a7:=hc k B;have a2:=M (2*k) D;have a3:=M (2*k+1) D;rw[show Tn l cs (2*k)=[bF (aL (TM l cs k)),.bool true] by grind [Tn]] at a2;rw[show Tn l cs (2*k+1)=[bF (aL (RU l cs k)),.bool false] by grind [Tn]] at a3;unfold J9 at a6;refine Nd ?_;intros;rw[a4];refine GO.cL (F.at (Ο:=C k) (F.refl _)) ?_;refine GO.ef (Ef.f5 rfl rfl (hC k B _)) ae ?_;rintro _ _⟨rfl,rfl⟩;refine Nd ?_;intros;refine GO.cL (F.at (Ο:=J7 (2*k)) (F.refl _)) ?_;((with_reducible apply GO.a8);refine GO.T8 (C0.yield (a2) rfl rfl fQ) ae ?_);rintro _ _⟨_,(⟨rfl,rfl⟩|⟨rfl,rfl⟩),hL⟩
 .simp only[au,ax] at hL;subst hL;refine Nd ?_;intros;((with_reducible apply GO.a8);refine GO.T8 (C0.yield (a3) rfl rfl fQ) ae ?_);rintro _ _⟨_,(⟨rfl,rfl⟩|⟨rfl,rfl⟩),hL⟩
  .simp only[au,ax] at hL;subst hL;refine Nd ?_;intros;refine⟨k+1,D,D,?_,?_⟩
   .rw[show(((k+1:Nat)):Int)=(k:Int)+1 by omega];exact aD
   .rw[show 2*(k+1)=2*k+1+1 by omega];exact ak
  .simp only[au,ax] at hL;subst hL;refine Nd ?_;intros;exact KX.a8 aF (F.c7 (F.nil _)) aj
 .simp only[au,ax] at hL;subst hL;refine Nd ?_;intros;exact KX.a8 aF (F.c7 (F.nil _)) aj
def N3(b:Nat)(I:ο)(x:OA×Nat):Η:=[obj b gu [ah x.1 I.length x.2],Ω aL 3 I7 x.1 x.2 I]
def TN(b:Nat)(I:ο):HP:=hex λx=>cx (N3 b I x)
def P3(l:ο)(cs:Nat->Int)(m:Nat):ο:=((List.range m).map (TM l cs)).foldl bH []
def PS(l:ο)(cs:Nat->Int)(m:Nat):ο:=((List.range m).map (RU l cs)).foldl bH []
def Hs(l:ο)(cs:Nat->Int)(m:Nat):P3 l cs (m+1)=bH (P3 l cs m) (TM l cs m):=by simp[P3,dc]
def wM(l:ο)(cs:Nat->Int)(m:Nat):PS l cs (m+1)=bH (PS l cs m) (RU l cs m):=by simp[PS,dc]
def oZ(l:ο)(cs:Nat->Int)(m:Nat):(P3 l cs m).length<=m/\(PS l cs m).length<=m:=by
 have K:=iV ((List.range m).map (TM l cs)) [];have T:=iV ((List.range m).map (RU l cs)) [];simp at K T;exact⟨K,T⟩
theorem Vi{l:ο}{cs:Nat->Int}{k:Nat}(hk:k<l.length)(hw:∀x∈l,J9 x)(hc:0<=cs k/\cs k<=l[k]!.2.2):J9 (TM l cs k)/\J9 (RU l cs k):=by
 grind [bA,J9,TM,RU,Wq,VR]
theorem MX{l:ο}{cs:Nat->Int}(hw:∀x∈l,J9 x)(hc:∀k,k<l.length->0<=cs k/\cs k<=l[k]!.2.2)(m:Nat)(hm:m<=l.length):(∀x∈P3 l cs m,J9 x)/\∀x∈PS l cs m,J9 x:=by
 constructor
 .refine ky cj ?_;grind [Vi]
 .refine ky cj ?_;intro x O;obtain⟨k,hk,rfl⟩:=H9 O;have B:=List.mem_range.1 hk;exact(Vi D hw aj).2
abbrev DM:List K4:=[.ev 0,.ev 1,.ef 2,.ef 3]
def gq{φ ψ:Prop}(k:ψ)(h:Hid ψ->φ:=by intro k;first|refine GO.ci (f:=324) (Hid.out k)|refine δ.ci (f:=324) (Hid.out k)|refine GO.cf (f:=324) rfl (Hid.out k)|refine δ.cf (f:=324) rfl (Hid.out k)|refine KX.Sz (Hid.out k)):φ:=h ⟨k⟩
def gn{φ ψ:Prop}(k:ψ)(h:Hid ψ->φ:=by intro k;(with_reducible apply Α.a8);first|refine Α.dr 22 7 DM (Hid.out k)):φ:=h ⟨k⟩
def YT{φ ψ:Prop}(k:ψ)(h:Hid ψ->φ:=by intro k;(repeat (first|refine ab ?_|intro B6|refine gn ?_|refine gq ?_));(repeat revert B6);exact Hid.out k):φ:=h ⟨k⟩
def oE(g:Nat)(cap:τ)(ad:OA)(c:Nat)(l:ο)(cs:Nat->Int)(C:Nat->HP)(hm:l.length<=1000000)(hw:∀x∈l,J9 x)(hc:∀k,k<l.length->0<=cs k/\cs k<=l[k]!.2.2)(hC:uW g cap l.length cs C) :
  Τ Θ 314 #[ah ad l.length c,.func (.func g) #[] cap.toArray] [C 0,ξ aL 3 ad l] (λv Γ=>∃B c1 M c2,v=.tuple #[ah B (P3 l cs l.length).length c1,ah M (PS l cs l.length).length c2]/\Γ = [Ω aL 3 I7 B c1 (P3 l cs l.length),Ω aL 3 I7 M c2 (PS l cs l.length)]):=by
 refine Τ.bd ?_;refine YT ?_;intros;rename_i b4 b5 bx bf;refine Α.d8 (BJ bx bf g cap ad c l cs C hm hw hc hC) rfl Zi.1 ae ?_ (λk=>[TN b4 (P3 l cs ((k+1) / 2)),TN b5 (PS l cs (k / 2))]) ?_ ?_ ?_
 .intro vs b1;obtain⟨k,_,rfl⟩:=H9 b1;unfold Tn;split<;>rfl
 .simp only[au,ax];rw[show P3 l cs ((0+1) / 2)=[] from rfl,show PS l cs (0 / 2)=[] from rfl];refine F.trans ?_ (F.f8 (none,0) (f:=N3 b4 []) (F.refl _));refine F.trans ?_ (F.append (F.refl (N3 b4 [] (none,0))) (F.f8 (none,0) (f:=N3 b5 []) (F.refl _)));simp only[N3,bu,au,ax];refine F.trans (F.c8 aL 3 I7) (F.trans (F.c8 aL 3 I7) ?_);exact ak
 .intro k hk;have b2:k<2*l.length:=by rw[pD] at hk;exact hk
  rw[yJ];obtain⟨m,a5⟩:∃m,m=k / 2:=⟨_,rfl⟩;have a6:m<l.length:=D;obtain⟨a7,a9⟩:=Vi a6 hw (hc m a6);have a3:=oZ l cs m;have b0:=oZ l cs (m+1);have a2:=MX hw hc m D;unfold Tn;by_cases a4:k % 2=0
  .rw[Χ a4,<-a5,show(k+1) / 2=m by omega,show(k+1+1) / 2=m+1 by omega,Hs];generalize P3 l cs m=ac at a3 a2;generalize PS l cs m=R;generalize TM l cs m=x at a7;show Α _ _ _ ((12,.bool true)::(11,bF (aL x))::_) _ _;refine Α.c9 (f:=N3 b4 ac) ?_;rintro⟨B,c1⟩;simp only[N3,au,ax];refine YT ?_;intros;refine GO.cL (F.at (Ο:=Ω aL 3 I7 B c1 ac) (F.refl _)) ?_;refine GO.ca (qS B c1 ac x D a2.1 a7) ?_;rintro _ _⟨M,c2,rfl,rfl⟩;refine YT ?_;intros;refine KX.round ?_;refine F.trans ?_ (F.f8 (M,c2) (f:=N3 b4 (bH ac x)) (F.refl _));simp only[N3,au,ax];exact ak
  .rw[Ν a4,<-a5,show(k+1) / 2=m+1 by omega,show(k+1+1) / 2=m+1 by omega,wM];generalize P3 l cs (m+1)=ac;generalize PS l cs m=R at a3 a2;generalize RU l cs m=x at a9;show Α _ _ _ ((12,.bool false)::(11,bF (aL x))::_) _ _;refine Α.cL F.swap ?_;refine Α.c9 (f:=N3 b5 R) ?_;rintro⟨B,c1⟩;simp only[N3,au,ax];refine YT ?_;intros;refine GO.cL (F.at (Ο:=Ω aL 3 I7 B c1 R) (F.refl _)) ?_;refine GO.ca (qS B c1 R x D a2.2 a9) ?_;rintro _ _⟨M,c2,rfl,rfl⟩;refine YT ?_;intros;refine KX.round ?_;refine F.trans ?_ (F.swap (Ο:=TN b5 (bH R x)));refine F.trans ?_ (F.f8 (M,c2) (f:=N3 b5 (bH R x)) (F.refl _));simp only[N3,au,ax];exact ak
 .rw[pD,show(2*l.length+1) / 2=l.length by omega,show 2*l.length / 2=l.length by omega];generalize P3 l cs l.length=ac;generalize PS l cs l.length=R;simp only[aI];refine KX.c7 (KX.f7 ?_);refine Α.c9 (f:=N3 b4 ac) ?_;rintro⟨B,c1⟩;refine Α.cL (Γ:=TN b5 R::N3 b4 ac (B,c1)) (F.perm (by simp only[N3,au,ax];exact(List.Perm.cons _ (List.Perm.swap _ _ _)).trans (List.Perm.swap _ _ _))) ?_;refine Α.c9 (f:=N3 b5 R) ?_;rintro⟨M,c2⟩;simp only[N3,au,ax];refine YT ?_;intros;refine KX.a8 (vs:=[ah B ac.length c1,ah M R.length c2]) (C7.a8 rfl (C7.a8 rfl C7.nil)) ?_ ⟨B,c1,M,c2,rfl,rfl⟩;exact ak
def Rg(l:ο)(m:Int):Nat->Int
 | 0=>m
 | k+1=>Rg l m k - min (Rg l m k) l[k]!.2.2
def P4(l:ο)(m:Int)(k:Nat):Int:=min (Rg l m k) l[k]!.2.2
theorem zN{l:ο}{m:Int}(h0:0<=m)(hw:∀x∈l,J9 x):∀k,k<=l.length->0<=Rg l m k/\Rg l m k<=m
 | 0,_=>⟨h0,bE _⟩
 | k+1,hk=>by
  have ih:=zN h0 hw k D;grind [bA,J9,Rg]
theorem qW{l:ο}{m:Int}(h0:0<=m)(hw:∀x∈l,J9 x)(k:Nat)(hk:k<l.length):0<=P4 l m k/\P4 l m k<=l[k]!.2.2:=by
 have K:=zN h0 hw k D;grind [bA,J9,P4]
abbrev B7:Nat:=3
def TO(bn bl:Nat)(ad:OA)(c:Nat)(l:ο)(m:Int)(k:Nat):Η:=[obj bn B7 [J (Rg l m k)],obj bl gu [ah ad l.length c],ξ aL 3 ad l]
abbrev DL:=Zb []
def wH(bn bl:Nat)(ad:OA)(c:Nat)(l:ο)(m:Int)(hm:l.length<=1000000)(h0:0<=m)(K:m<=1099511627776)(hw:∀x∈l,J9 x) :
  uW 318 [av bn,av bl] l.length (P4 l m) (λk=>cx (TO bn bl ad c l m k)):=by
 intro k hk L;have M:(k:Int).toNat=k:=D;have hb:=zN h0 hw k D;have B:=qW h0 hw k hk;have a2:=hw _ (bA hk);unfold J9 at a2;unfold P4 at B;rw[<-M] at a2 B;rw[M] at B;refine Τ.bd (args:=[J (k:Int),av bn,av bl]) ?_;refine Α.cL F.Tl ?_;simp only[TO,au,ax];repeat first|refine ab ?_|intro _|((with_reducible apply Α.a8);first|refine Α.dr 17 1 DL ?_)
 rw[M];exact KX.a8 aF (F.f7 (Ο:=[_,_,_]) (L:=L)) ⟨rfl,rfl⟩
def lL{L:Η}(ad:OA)(n c:Nat)(I:ο)[F2 L ad h2 aL 3 I](hn:n=I.length)(hb:I.length<=4096)(O:∀l∈I,a0 l) :
  Τ Θ 17 #[ah ad n c] L (F3 (J (aY I)) L):=by
 refine Τ.bd ?_;refine Nd ?_;intros;refine GO.ca (kq ad n c I hn hb O) ?_;rintro _ L ⟨rfl,rfl⟩;refine Nd ?_;intros;refine GO.ca (lI ad n c I hn hb O) ?_;rintro _ L ⟨rfl,rfl⟩;refine Nd ?_;intros;exact KX.en ⟨rfl,rfl⟩
def gS{φ ψ:Prop}(k:ψ)(h:Hid ψ->φ:=by intro k;first|refine GO.ci (f:=311) (Hid.out k)|refine δ.ci (f:=311) (Hid.out k)|refine GO.cf (f:=311) rfl (Hid.out k)|refine δ.cf (f:=311) rfl (Hid.out k)|refine KX.Sz (Hid.out k)):φ:=h ⟨k⟩
def YU{φ ψ:Prop}(k:ψ)(h:Hid ψ->φ:=by intro k;(repeat (first|refine ab ?_|intro B6|refine gS ?_));(repeat revert B6);exact Hid.out k):φ:=h ⟨k⟩
def Dt{L:Η}(ad:OA)(c:Nat)(I:ο)(n:Int)(mixed:Bool)(a3:mixed=false)(hb:I.length<=4096)(O:∀l∈I,a0 l)(a2:0<=n)(a4:n<=1099511627776) :
  Τ Θ 300 #[ah ad I.length c,J n,.bool mixed] (ξ aL 3 ad I::L) (λv Γ =>
   (aY I<n/\v=.tuple #[ah none 0 0,ah none 0 0,J 10]/\Γ = ξ aL 3 ad I::L) \/
   (n<=aY I/\∃B c1 M c2,v=.tuple #[ah B (P3 I (P4 I n) I.length).length c1,ah M (PS I (P4 I n) I.length).length c2,J 0]/\Γ = Ω aL 3 I7 B c1 (P3 I (P4 I n) I.length)::Ω aL 3 I7 M c2 (PS I (P4 I n) I.length)::ξ aL 3 ad I::L)):=by
 subst a3;have hw:∀x∈I,J9 x:=λx h=>(O x h).w;refine Τ.bd ?_;refine YU ?_;intros;refine GO.cr (kq ad I.length c I rfl hb O) ?_;refine YU ?_;intros;refine GO.cr (lL ad I.length c I rfl hb O) ?_;by_cases hs:aY I<n
 .refine YU ?_;intros;exact KX.a8 aF (F.refl _) (.inl ⟨hs,rfl,rfl⟩)
 refine YU ?_;intros;rename_i bl bn;refine GO.cL (Γ:=cx (TO bn bl ad c I n 0)::ξ aL 3 ad I::ξ aL 3 ad I::L) ?_ ?_
 .refine F.trans ?_ F.f7;simp only[TO,Rg,au,ax];refine(F.at (Ο:=ξ aL 3 ad I) (F.dup (lF _ _ _ _))).trans ?_;refine(F.dup (lF _ _ _ _)).trans ?_;exact ak
 (first|refine GO.ef (Ef.call (oE _ _ ad c I (P4 I n) (λk=>cx (TO bn bl ad c I n k)) D hw (qW a2 hw) (wH bn bl ad c I n D a2 a4 hw)) rfl fQ) ae ?_);rintro _ _⟨_,⟨B,c1,M,c2,rfl,rfl⟩,hL⟩;simp only[au,ax] at hL;subst hL;refine YU ?_;intros;exact KX.a8 aF (F.refl _) (.inr ⟨D,B,c1,M,c2,rfl,rfl⟩)
