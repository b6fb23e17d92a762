/- Lemmas. -/
import Derived.Test.YtlgpgjdggilkgaaGreatDoorEdai
set_option linter.all false
set_option maxHeartbeats 1000000
namespace Go.Proofs.YtlgpgjdggilkgaaGreatDoor
section
open Go.V
theorem KF{α:Type}{Η:α->χ}{sz:Nat}{ad:OA}{G:List α}{cap:Nat}(hc:G.length<=cap)(k:Nat){L:Ι}:E (τ Η sz ad G::L) (τ Η sz (NJ ad cap sz k) (G.drop k)::L):=by
 refine E.o7 λθ R w s=>?_;obtain⟨ok,ι,h,a,b1,c,G6,E4,D5,d1,d2,d3,d4,⟨e1,e2⟩,d6⟩:=s;refine⟨ok,ι,h,a,b1,c,G6,E4,D5,d1,d2,d3,d4,⟨λx M=>ah,?_⟩,d6⟩;rcases e2 with rfl|⟨g,off,J,ζ,fz,rfl,f1,f2⟩
 .grind
 by_cases hk:G.length<=k
 .exact .inl (List.drop_eq_nil_of_le hk)
 .right;have a2:¬cap=k:=D;refine⟨g,off+k*sz,J,ζ,fz,?_,f1,?_⟩
  .grind [NJ,iR]
  .intro i v hv
   have A:∀(l:List α) (k:Nat),(∀x∈l,(Η x).length=sz)->(l.drop k).flatMap Η=(l.flatMap Η).drop (k*sz):=by
    intro l;induction l with
    | nil=>intro k _;simp
    | cons y l ih =>
     intro k T;cases k with
     | zero=>simp
     | succ k =>
      have U:=T y cg;simp only[List.drop_succ_cons,aS];have I:(Η y).drop ((k+1)*sz)=[]:=by grind [bV]
      rw[ih k ah,List.drop_append,I,U,ig,Nat.add_sub_cancel,av]
   grind
abbrev SM(b:Nat)(cR:List Int)(err:Int)(x:Sn)(L:Ι):Ι:=ee (cR.length<=x.cap)::obj b 363 [ae x.ad cR.length x.cap,K err]::τ (eU .u8) 1 x.ad cR::L
def Oh(b:Nat)(cR:List Int)(A:Int):HP:=hex λx:Sn=>cw (SM b cR A x [])
def gA{b:Nat}{cR:List Int}{A:Int}{L:Ι}(x:Sn)(h:cR.length<=x.cap):E (obj b 363 [ae x.ad cR.length x.cap,K A]::τ (eU .u8) 1 x.ad cR::L) (Oh b cR A::L):=E.f9 (f:=λx=>SM b cR A x []) x (E.pure h (E.refl _))
attribute [local irreducible] Β Y GP δ vi GF GE Z Ef C0 E CB GB V.Enters
def FM{L:Ι}(ad:OA)(n c:Nat)(G:List Int)[hrd:F5 L ad Int (eU .u8) 1 G](hn:n=G.length)(hm:n<=1000000000) :
  Υ Λ 197 #[ae ad n c] L (λv Ε=>∃b,v=ay b/\Ε = Oh b G 0::L):=by
 refine Υ.bd ?_;refine ML ?_;intros;refine Y.ca (sD _ _ _ G hn hm) ?_;rintro _ _⟨J,A,rfl,rfl⟩;refine Y.g9 (mS (ad:=J)) ?_;rintro⟨a2,_⟩;refine ML ?_;intros;rename_i b;refine KX.a8 aC ?_ ⟨b,rfl,rfl⟩;refine E.trans ?_ (gA ⟨J,0,A⟩ a2);exact E.a8 E.NZ
def P0(cR:List Int)(A:Int):Int×List Int×Int:=if A≠0 then(0,cR,A) else match cR with
 | []=>(0,[],3)
 | b::t=>(b,t,0)
theorem ur{L:Ι}(b:Nat)(cR:List Int)(J:Int) :
  Υ Λ 282 #[ay b] (Oh b cR J::L) (F7 (.int .u8 (P0 cR J).1) (Oh b (P0 cR J).2.1 (P0 cR J).2.2::L)):=by
 refine Υ.bd ?_;refine Β.c9 (f:=λx=>SM b cR J x []) ?_;intro x;simp only[aq,av];refine Β.d7 ?_;intro A;by_cases he:J=0
 case neg =>
  refine ML ?_;intros;refine KX.a8 aC (gA x A) ⟨?_,?_⟩
  .simp[P0,he,O5]
  .simp[P0,he]
 subst he;cases cR with
 | nil =>
  refine ML ?_;intros;exact KX.a8 aC (gA x A) ⟨by simp[P0,O5],by simp[P0]⟩
 | cons y t =>
  have a3:(y::t).length=t.length+1:=rfl;have a2:((y::t).length:Int)=t.length+1:=by simp
  refine ML ?_;intros;refine KX.a8 aC ?_ ⟨by simp[P0,O5],rfl⟩;rw[show P0 (y::t) 0=(y,t,0) by simp[P0]];refine E.trans ?_ (gA ⟨NJ x.ad x.cap 1 1,0,x.cap - 1⟩ ah);exact E.a8 (KF (G:=y::t) A 1)
def Kv{cR:List Int}{A:Int}(h:A≠0):P0 cR A=(0,cR,A):=by simp[P0,h]
def iG(cR:List Int)(A:Int):Nat×List Int×Int:=if A≠0 then(0,cR,A) else((Qi cR 0 0).1,(Qi cR 0 0).2.2,(Qi cR 0 0).2.1)
def uj{L:Ι}(b:Nat)(cR:List Int)(a2:Int)(hb:iB cR) :
  Υ Λ 281 #[ay b] (Oh b cR a2::L) (F7 (.int .u64 (iG cR a2).1) (Oh b (iG cR a2).2.1 (iG cR a2).2.2::L)):=by
 refine Υ.bd ?_;refine ML ?_;intros;refine Β.loop (α:=Nat×Nat×List Int) (λg=>g.1<=9/\g.2.1<128 ^ g.1/\iB g.2.2/\(a2=0->Qi g.2.2 g.1 g.2.1=Qi cR 0 0)/\(a2≠0->g.2.2=cR)) (λg=>[(0,ay b),(3,.int .u64 (g.2.1:Int)),(4,K (g.1:Int))]) (λg=>Oh b g.2.2 a2::L) (λg=>9 - g.1) (0,0,cR) ⟨by simp,by simp,hb,λ_=>rfl,λ_=>rfl⟩ aG (E.refl _) ?_;rintro⟨i,acc,l⟩ ⟨hi,ha,T,hr,a3⟩;simp only[] at hi ha T hr a3 ⊢;refine ML ?_;intros;refine Y.ef (Ef.k7 (ur b l a2) rfl) ac ?_;rintro _ _⟨rfl,rfl⟩;by_cases he:a2=0
 case neg =>
  rw[Kv he,a3 he];refine ML ?_;intros;refine Y.c8 (f:=λx=>SM b cR a2 x []) ?_;intro x;simp only[aq,av];refine Y.d7 ?_;intro A;refine ML ?_;intros;exact KX.a8 aC (gA x A) ⟨by simp[iG,he,O5],by simp[iG,he]⟩
 subst he;have hrd:=hr rfl;clear hr a3;cases l with
 | nil =>
  rw[show P0 [] 0=(0,[],3) by simp[P0]];refine ML ?_;intros;refine Y.c8 (f:=λx=>SM b [] 3 x []) ?_;intro x;simp only[aq,av];refine Y.d7 ?_;intro A;refine ML ?_;intros
  have e:iG cR 0=(0,[],3):=by
   simp only[iG,<-hrd];simp[Qi]
  exact KX.a8 aC (gA x A) ⟨by rw[e];rfl,by rw[e]⟩
 | cons y t =>
  rw[show P0 (y::t) 0=(y,t,0) by simp[P0]];have U:=T y cg;have ht:iB t:=λx M=>T x (az _ M);refine ML ?_;intros;refine Y.c8 (f:=λx=>SM b t 0 x []) ?_;intro x;simp only[aq,av];refine Y.d7 ?_;intro A;by_cases J:(i=9/\1<y)\/(0<i/\y=0)
  .have e:iG cR 0=(0,t,2):=by
    simp only[iG,<-hrd,Qi];simp[J]
   rcases J with⟨h9,I⟩|⟨h9,I⟩
   .refine ML ?_;intros;exact KX.a8 aC (gA x A) ⟨by rw[e];rfl,by rw[e]⟩
   .by_cases a9:i=9
    .refine ML ?_;intros;exact KX.a8 aC (gA x A) ⟨by rw[e];rfl,by rw[e]⟩
    .refine ML ?_;intros;exact KX.a8 aC (gA x A) ⟨by rw[e];rfl,by rw[e]⟩
  have hp:=nK hi;obtain⟨yN,a7⟩:∃yN:Nat,y=(yN:Int):=⟨y.toNat,D⟩;subst a7;have hm:=dW yN (show 0<128 by decide)
  have a5:yN % 128*128 ^ i<18446744073709551616:=by
   by_cases h9:i=9
   .subst h9;have Q:yN<=1:=D;have h3:yN % 128*128 ^ 9<=1*128 ^ 9:=bS _ D;omega
   .have h3:yN % 128*128 ^ i<=127*128 ^ i:=bS _ D;have b1:(128:Nat) ^ (i+1)<=9223372036854775808:=nK D;have a6:(128:Nat) ^ (i+1)=128 ^ i*128:=Nat.pow_succ ..;omega
  repeat first|refine Β.sm 7 ?_|refine dz ?_|intro
  refine Β.c7 (α:=Unit) (λ_=>True) (λ_=>[(0,ay b),(3,.int .u64 (acc:Int)),(4,K (i:Int)),(5,.int .u8 (yN:Int))]) (λ_=>Oh b t 0::L) ?_ ?_
  .by_cases h9:i=9
   .refine ML ?_;intros;exact⟨(),trivial,aG,gA x A⟩
   .by_cases h0:i=0
    .refine ML ?_;intros;exact⟨(),trivial,aG,gA x A⟩
    .refine ML ?_;intros;exact⟨(),trivial,aG,gA x A⟩
  rintro _ _;refine ML ?_;intros;refine Y.ev (Z.A8 rfl rfl D D ac ac) ac ?_;rw[bB,show(127:Int).toNat=127 from rfl,Mf yN D];refine ML ?_;intros;refine Y.ev (Z.shl rfl rfl D) ac ?_
  have e1:IntKind.u64.wrap (((yN % 128:Nat):Int)*2 ^ min (7*(i:Int)).toNat IntKind.u64.bits)=((yN % 128*2 ^ (7*i) % 18446744073709551616:Nat):Int):=by
   rw[IntKind.wrap_u64,show min (7*(i:Int)).toNat IntKind.u64.bits=7*i by simp[IntKind.bits];omega];simp
  have b0:=dW (yN % 128*2 ^ (7*i)) (show 0<18446744073709551616 by decide);rw[e1];refine Y.ev (Z.y7 rfl rfl D D D D) ac ?_;rw[bB,bB,Iu ha a5];by_cases a4:yN<128
  .refine ML ?_;intros
   have e:iG cR 0=(acc+yN % 128*128 ^ i,t,0):=by
    rw[iG,Ο cg,<-hrd];simp only[Qi];rw[Ο J,Ω D,bB]
   exact KX.a8 aC (E.refl _) ⟨by rw[e];rfl,by rw[e]⟩
  .refine ML ?_;intros
   have h9:i≠9:=by
    intro h9;exact J (.inl ⟨h9,D⟩)
   have a6:(128:Nat) ^ (i+1)=128 ^ i*128:=Nat.pow_succ ..;have h3:yN % 128*128 ^ i<=127*128 ^ i:=bS _ D;refine⟨(i+1,acc+yN % 128*128 ^ i,t),⟨by simp only[];omega,by simp only[];omega,ht,λ_=>?_,λh=>iJ rfl h⟩,by simp only[];omega,?_,E.refl _⟩
   .simp only[];rw[<-hrd];simp only[Qi];rw[Ο J,Ο D,bB]
   .simp only[];rw[show(((i+1:Nat)):Int)=(i:Int)+1 by omega];exact aG
theorem Ih{cR:List Int}(A:Int)(h:iB cR):(iG cR A).1<18446744073709551616:=by
 grind [iG,FN]
theorem BP(a:Nat)(ha:a<9223372036854775808):bits .xor .i64 (a:Int) (-1) = -1 - (a:Int):=by
 grind [bits,i64_not]
theorem zx(a:Nat)(ha:a<9223372036854775808):bits .xor .i64 (a:Int) 0=(a:Int):=by
 show IntKind.i64.wrap ((BitVec.ofInt 64 (a:Int) ^^^ BitVec.ofInt 64 0).toNat:Int)=_;grind [IntKind.wrap_i64]
theorem wY(u:Nat)(hu:u<18446744073709551616) :
  Υ Λ 280 #[.int .u64 u] [] (λv L=>v=K (Uh u)/\L=[]):=by
 refine Υ.bd (args:=[.int .u64 (u:Int)]) ?_;refine ML ?_;intros;refine Y.ev (Z.shr rfl rfl ac) ac ?_
 have e2:((u:Nat):Int).fdiv (2 ^ min ((1:Int).toNat) IntKind.u64.bits)=((u / 2:Nat):Int):=by
  rw[dK _ ac];simp[IntKind.bits]
 rw[e2];refine ML ?_;intros;refine Y.ev (Z.x8 rfl rfl D D ac ac) ac ?_;rw[bB,show(1:Int).toNat=1 from rfl,Nat.and_one_is_mod];refine ML ?_;intros;by_cases h:u % 2=1
 .rw[h];refine Y.ev (Z.bits cg rfl rfl) ac ?_;rw[show(-((1:Nat):Int)) = -1 from rfl,BP (u / 2) D];refine ML ?_;intros;exact KX.a8 aC (E.refl _) (by grind [O5,Uh])
 .rw[show u % 2=0 by omega];refine Y.ev (Z.bits cg rfl rfl) ac ?_;rw[show(-((0:Nat):Int))=0 from rfl,zx (u / 2) D];refine ML ?_;intros;exact KX.a8 aC (E.refl _) (by grind [O5,Uh])
def FO{L:Ι}(b:Nat)(cR:List Int)(A:Int)(hb:iB cR) :
  Υ Λ 198 #[ay b] (Oh b cR A::L) (F7 (K (Uh (iG cR A).1)) (Oh b (iG cR A).2.1 (iG cR A).2.2::L)):=by
 refine Υ.bd ?_;refine ML ?_;intros;refine Y.ef (Ef.k7 (uj b cR A hb) rfl) ac ?_;rintro _ _⟨rfl,rfl⟩;(first|refine Y.ef (Ef.call (wY _ (Ih A hb)) rfl fT) ac ?_);rintro _ _⟨_,⟨rfl,rfl⟩,hL⟩;simp only[aq,av] at hL;subst hL;refine ML ?_;intros;exact KX.en ⟨rfl,rfl⟩
def FP{L:Ι}(b:Nat)(cR:List Int)(J:Int) :
  Υ Λ 201 #[ay b] (Oh b cR J::L) (F7 (K (if J≠0 then J else if cR=[] then 0 else 2)) (Oh b cR J::L)):=by
 refine Υ.bd ?_;refine Β.c9 (f:=λx=>SM b cR J x []) ?_;intro x;simp only[aq,av];refine Β.d7 ?_;intro A;by_cases he:J=0
 case neg =>
  refine ML ?_;intros;exact KX.a8 aC (gA x A) ⟨by simp[he,O5],rfl⟩
 cases cR with
 | nil =>
  refine ML ?_;intros;exact KX.a8 aC (gA x A) ⟨by simp[he,O5],rfl⟩
 | cons y t =>
  have a2:(y::t).length=t.length+1:=rfl;refine ML ?_;intros;exact KX.a8 aC (gA x A) ⟨by simp[he,O5],rfl⟩
theorem yk{n:Nat}(h:n<18446744073709551616)(t:List Int):iG (uv n++t) 0=(n,t,0):=by
 grind [iG,Kk]
theorem kU{L:Ι}(b:Nat)(n:Int)(t:List Int)(h0:xs n)(hb:iB t) :
  Υ Λ 198 #[ay b] (Oh b (uv (zz n)++t) 0::L) (F7 (K n) (Oh b t 0::L)):=by
 have h:=FO (L:=L) b (uv (zz n)++t) 0 (by grind [lv]);rw[yk (kP h0.1 h0.2)] at h;rw[JT] at h;exact h
def AH{L:Ι}(b:Nat)(q:Bool)(t:List Int) :
  Υ Λ 199 #[ay b] (Oh b ((if q=true then 1 else 0)::t) 0::L) (F7 (.bool q) (Oh b t 0::L)):=by
 refine Υ.bd ?_;refine ML ?_;intros;refine Y.cr (ur b ((if q=true then 1 else 0)::t) 0) ?_;rw[show P0 ((if q=true then 1 else 0)::t) 0=((if q=true then 1 else 0),t,0) by simp[P0]];cases q with
 | true =>
  refine ML ?_;intros;exact KX.a8 aC (E.refl _) ⟨by rw[bO cg];rfl,rfl⟩
 | false =>
  refine ML ?_;intros;exact KX.a8 aC (E.refl _) ⟨by rw[bz cg];rfl,rfl⟩
end
section
open Go.V
attribute [local irreducible] Β Y GP δ vi Z Ef C0 E CB GB Enters
def J9(l:iK):Prop:=0<=l.1/\0<=l.2.1/\0<=l.2.2/\l.2.1+l.2.2<=1099511627776
def a0.w{l:iK}(h:a0 l):J9 l:=by unfold a0 at h;unfold J9;omega
def lK(x b:iK):Prop:=[x.1,x.2.1,0]=[b.1,b.2.1+b.2.2,0]
instance (x b:iK):Decidable (lK x b):=by unfold lK;infer_instance
theorem Ti{x b:iK}:lK x b↔x.1=b.1/\x.2.1=b.2.1+b.2.2:=by simp[lK]
def bF(l:π)(x:iK):π :=
 if x.2.2=0 then l else if l.length≠0/\lK x l[l.length - 1]! then l.set (l.length - 1) (l[l.length - 1]!.1,l[l.length - 1]!.2.1,l[l.length - 1]!.2.2+x.2.2) else l++[x]
theorem qG(l:π)(x:iK):(bF l x).length<=l.length+1:=by
 grind [bF]
theorem CC{l:π}{x:iK}(h:∀y∈l,J9 y)(M:J9 x):∀y∈bF l x,J9 y:=by
 grind [bF,Ti,bI,J9]
theorem ku{G:π}:∀{l:π},(∀y∈l,J9 y)->(∀y∈G,J9 y)->∀y∈G.foldl bF l,J9 y:=by
 induction G with
 | nil=>grind
 | cons x G ih =>
  grind [CC,au]
theorem iV(G:π):∀l:π,(G.foldl bF l).length<=l.length+G.length:=by
 induction G with
 | nil=>intro l;simp
 | cons x G ih =>
  grind [qG]
def EK{L:Ι}(x b:iK)(hb:J9 b):Υ Λ 305 #[bC (aK x),bC (aK b)] L (F7 (.bool (dB (lK x b))) L):=by
 unfold J9 at hb;refine Υ.bd ?_;refine ML ?_;intros;exact KX.en ⟨rfl,rfl⟩
abbrev DM:=Yt [.ev 8,.ef 9,.ev 10]
abbrev DL:=Yu [.ev 10,.ef 11]
def MM{φ ψ:Prop}(k:ψ)(h:Hid ψ->φ:=by intro k;(repeat (first|refine ab ?_|intro B8|refine Β.dr 39 4 DM ?_|refine Β.dr 39 5 DL ?_));(repeat revert B8);exact Hid.out k):φ:=h ⟨k⟩
theorem qS{L:Ι}(ad:OA)(cap:Nat)(G:π)(x:iK)(T:G.length<=100000000)(a6:∀y∈G,J9 y)(M:J9 x) :
  Υ Λ 278 #[ae ad G.length cap,bC (aK x)] (μ aK 3 I5 ad cap G::L) (λv Ε=>∃a5 J,v=ae a5 (bF G x).length J/\Ε = μ aK 3 I5 a5 J (bF G x)::L):=by
 refine Υ.bd ?_;by_cases h0:x.2.2=0
 .have e:bF G x=G:=by unfold bF;rw[Ω h0]
  rw[e];refine MM ?_;intros;exact KX.en ⟨ad,cap,rfl,rfl⟩
 by_cases I:G.length=0
 .have e:bF G x=G++[x]:=by unfold bF;rw[Ο h0,Ο D]
  rw[e];refine MM ?_;intros;refine Y.ef (Ef.a8 (Η:=aK) (e:=x) rfl rfl rfl rfl rfl aY (fY _) D D) ac ?_;rintro _ _⟨a2,A,rfl,rfl⟩;refine MM ?_;intros;exact KX.en ⟨a2,A,rfl,rfl⟩
 have a3:((G.length:Int) - 1).toNat=G.length - 1:=D;have a4:=a6 _ (bI (D:G.length - 1<G.length));rw[<-a3] at a4;refine MM ?_;intros;refine δ.cr (EK x G[((G.length:Int) - 1).toNat]! a4) ?_;by_cases hc:lK x G[((G.length:Int) - 1).toNat]!
 .have a7:=Ti.1 hc;rw[bO hc];unfold J9 at a4 M;refine MM ?_;intros;refine δ.No (Ef.d7 (e:=((G[((G.length:Int) - 1).toNat]!.1,G[((G.length:Int) - 1).toNat]!.2.1,G[((G.length:Int) - 1).toNat]!.2.2+x.2.2):iK)) rfl rfl aY rfl D ac) ?_;rintro _ _ rfl
  have e:bF G x=G.set ((G.length:Int) - 1).toNat (G[((G.length:Int) - 1).toNat]!.1,G[((G.length:Int) - 1).toNat]!.2.1,G[((G.length:Int) - 1).toNat]!.2.2+x.2.2):=by
   unfold bF;rw[a3] at hc ⊢;rw[Ο h0,Ω ⟨I,hc⟩]
  rw[e];refine MM ?_;intros;exact KX.a8 aC aj ⟨ad,cap,by rw[bU];rfl,rfl⟩
 .rw[bz hc]
  have e:bF G x=G++[x]:=by
   unfold bF;rw[a3] at hc;rw[Ο h0,Ο ah]
  rw[e];refine MM ?_;intros;refine Y.ef (Ef.a8 (Η:=aK) (e:=x) rfl rfl rfl rfl rfl aY (fY _) D D) ac ?_;rintro _ _⟨a2,A,rfl,rfl⟩;refine MM ?_;intros;exact KX.en ⟨a2,A,rfl,rfl⟩
def VY(x:iK)(c:Int):iK:=(x.1,x.2.1,c)
def Vm(x:iK)(c:Int):iK:=(x.1,x.2.1+c,x.2.2 - c)
def Tk(l:π)(cs:Nat->Int)(k:Nat):iK:=VY l[k]! (cs k)
def Rr(l:π)(cs:Nat->Int)(k:Nat):iK:=Vm l[k]! (cs k)
def SN(l:π)(cs:Nat->Int)(k:Nat):χ:=if k % 2=0 then[bC (aK (Tk l cs (k / 2))),.bool true] else[bC (aK (Rr l cs (k / 2))),.bool false]
def Ui(l:π)(cs:Nat->Int):List (χ):=(List.range (2*l.length)).map (SN l cs)
def py(l:π)(cs:Nat->Int):(Ui l cs).length=2*l.length:=by simp[Ui]
def yM{l:π}{cs:Nat->Int}{k:Nat}(h:k<(Ui l cs).length):(Ui l cs)[k]=SN l cs k:=by simp[Ui]
def va(g:FuncId)(cap:χ)(n:Nat)(cs:Nat->Int)(C:Nat->HP):Prop:=∀k,k<n->∀L:Ι,Υ Λ g (([]++[Value.int .i64 (k:Int)]++cap:χ)).toArray (C k::L) (F7 (K (cs k)) (C (k+1)::L))
abbrev gw:Nat:=35
abbrev Xc:Nat:=48
theorem BF(bx bf g:Nat)(cap:χ)(ad:OA)(c:Nat)(l:π)(cs:Nat->Int)(C:Nat->HP)(hm:l.length<=1000000)(hw:∀x∈l,J9 x)(hc:∀k,k<l.length->0<=cs k/\cs k<=l[k]!.2.2)(hC:va g cap l.length cs C) :
  Fp Λ 332 [ay bx,ay bf] (Ui l cs) [obj bx gw [ae ad l.length c],obj bf Xc [.func (.func g) #[] cap.toArray],C 0,τ aK 3 ad l] []:=by
 intro i J8 Jx U;rw[py]
 have J : ∀k (hk:k<2*l.length),Sp Λ i (SN l cs k) [J8 k] (λv Ε=>(v=.bool true/\Ε = [J8 (k+1)])\/(v=.bool false/\Ε = [Jx k])):=by
  intro k hk;have h:=U k (by rw[py];exact hk);rw[yM] at h;exact h
 clear U;refine Υ.bd (args:=[.func (.yield i) #[] #[],ay bx,ay bf]) ?_;refine ML ?_;intros;refine Β.loop (α:=Nat) (λk=>k<=l.length) (λk=>[(0,.func (.yield i) #[] #[]),(1,ay bx),(2,ay bf),(7,ae ad l.length c),(8,K l.length),(9,K (k:Int))]) (λk=>[J8 (2*k),obj bx gw [ae ad l.length c],obj bf Xc [.func (.func g) #[] cap.toArray],C k,τ aK 3 ad l]) (λk=>l.length - k) 0 D aG (E.refl _) ?_;intro k hk;by_cases A:k<l.length
 case neg =>
  have a5:k=l.length:=D;refine ML ?_;intros;refine KX.c8 aC (E.a8 (E.nil _)) (.inl ?_);rw[a5]
 have a4:(k:Int).toNat=k:=D;have a6:=hw _ (bI A);have a7:=hc k A;have a2:=J (2*k) D;have a3:=J (2*k+1) D;rw[show SN l cs (2*k)=[bC (aK (Tk l cs k)),.bool true] by grind [SN]] at a2;rw[show SN l cs (2*k+1)=[bC (aK (Rr l cs k)),.bool false] by grind [SN]] at a3;unfold J9 at a6;refine ML ?_;intros;rw[a4];refine Y.cM (E.at (Φ:=C k) (E.refl _)) ?_;refine Y.ef (Ef.f7 rfl rfl (hC k A _)) ac ?_;rintro _ _⟨rfl,rfl⟩;refine ML ?_;intros;refine Y.cM (E.at (Φ:=J8 (2*k)) (E.refl _)) ?_;((with_reducible apply Y.a8);refine Y.TG (C0.yield (a2) rfl rfl fT) ac ?_);rintro _ _⟨_,(⟨rfl,rfl⟩|⟨rfl,rfl⟩),hL⟩
 .simp only[aq,av] at hL;subst hL;refine ML ?_;intros;((with_reducible apply Y.a8);refine Y.TG (C0.yield (a3) rfl rfl fT) ac ?_);rintro _ _⟨_,(⟨rfl,rfl⟩|⟨rfl,rfl⟩),hL⟩
  .simp only[aq,av] at hL;subst hL;refine ML ?_;intros;refine⟨k+1,D,D,?_,?_⟩
   .rw[show(((k+1:Nat)):Int)=(k:Int)+1 by omega];exact aG
   .rw[show 2*(k+1)=2*k+1+1 by omega];exact aj
  .simp only[aq,av] at hL;subst hL;refine ML ?_;intros;exact KX.a8 aC (E.a8 (E.nil _)) ah
 .simp only[aq,av] at hL;subst hL;refine ML ?_;intros;exact KX.a8 aC (E.a8 (E.nil _)) ah
def NK(b:Nat)(G:π)(x:OA×Nat):Ι:=[obj b gw [ae x.1 G.length x.2],μ aK 3 I5 x.1 x.2 G]
def Tl(b:Nat)(G:π):HP:=hex λx=>cw (NK b G x)
def PG(l:π)(cs:Nat->Int)(m:Nat):π:=((List.range m).map (Tk l cs)).foldl bF []
def Pu(l:π)(cs:Nat->Int)(m:Nat):π:=((List.range m).map (Rr l cs)).foldl bF []
def Hg(l:π)(cs:Nat->Int)(m:Nat):PG l cs (m+1)=bF (PG l cs m) (Tk l cs m):=by simp[PG,df]
def wR(l:π)(cs:Nat->Int)(m:Nat):Pu l cs (m+1)=bF (Pu l cs m) (Rr l cs m):=by simp[Pu,df]
def oU(l:π)(cs:Nat->Int)(m:Nat):(PG l cs m).length<=m/\(Pu l cs m).length<=m:=by
 have I:=iV ((List.range m).map (Tk l cs)) [];have Q:=iV ((List.range m).map (Rr l cs)) [];simp at I Q;exact⟨I,Q⟩
theorem UM{l:π}{cs:Nat->Int}{k:Nat}(hk:k<l.length)(hw:∀x∈l,J9 x)(hc:0<=cs k/\cs k<=l[k]!.2.2):J9 (Tk l cs k)/\J9 (Rr l cs k):=by
 grind [bI,J9,Tk,Rr,VY,Vm]
theorem MF{l:π}{cs:Nat->Int}(hw:∀x∈l,J9 x)(hc:∀k,k<l.length->0<=cs k/\cs k<=l[k]!.2.2)(m:Nat)(hm:m<=l.length):(∀x∈PG l cs m,J9 x)/\∀x∈Pu l cs m,J9 x:=by
 constructor
 .refine ku cg ?_;grind [UM]
 .refine ku cg ?_;intro x M;obtain⟨k,hk,rfl⟩:=H8 M;have A:=List.mem_range.1 hk;exact(UM D hw ah).2
abbrev DK:List K3:=[.ev 0,.ev 1,.ef 2,.ef 3]
def gt{φ ψ:Prop}(k:ψ)(h:Hid ψ->φ:=by intro k;first|refine Y.ci (f:=324) (Hid.out k)|refine δ.ci (f:=324) (Hid.out k)|refine Y.cf (f:=324) rfl (Hid.out k)|refine δ.cf (f:=324) rfl (Hid.out k)|refine KX.RY (Hid.out k)):φ:=h ⟨k⟩
def gq{φ ψ:Prop}(k:ψ)(h:Hid ψ->φ:=by intro k;(with_reducible apply Β.a8);first|refine Β.dr 22 7 DK (Hid.out k)):φ:=h ⟨k⟩
def Yl{φ ψ:Prop}(k:ψ)(h:Hid ψ->φ:=by intro k;(repeat (first|refine ab ?_|intro B8|refine gq ?_|refine gt ?_));(repeat revert B8);exact Hid.out k):φ:=h ⟨k⟩
def oA(g:Nat)(cap:χ)(ad:OA)(c:Nat)(l:π)(cs:Nat->Int)(C:Nat->HP)(hm:l.length<=1000000)(hw:∀x∈l,J9 x)(hc:∀k,k<l.length->0<=cs k/\cs k<=l[k]!.2.2)(hC:va g cap l.length cs C) :
  Υ Λ 314 #[ae ad l.length c,.func (.func g) #[] cap.toArray] [C 0,τ aK 3 ad l] (λv Ε=>∃A c1 J c2,v=.tuple #[ae A (PG l cs l.length).length c1,ae J (Pu l cs l.length).length c2]/\Ε = [μ aK 3 I5 A c1 (PG l cs l.length),μ aK 3 I5 J c2 (Pu l cs l.length)]):=by
 refine Υ.bd ?_;refine Yl ?_;intros;rename_i b4 b5 bx bf;refine Β.d8 (BF bx bf g cap ad c l cs C hm hw hc hC) rfl Y1.1 ac ?_ (λk=>[Tl b4 (PG l cs ((k+1) / 2)),Tl b5 (Pu l cs (k / 2))]) ?_ ?_ ?_
 .intro vs b1;obtain⟨k,_,rfl⟩:=H8 b1;unfold SN;split<;>rfl
 .simp only[aq,av];rw[show PG l cs ((0+1) / 2)=[] from rfl,show Pu l cs (0 / 2)=[] from rfl];refine E.trans ?_ (E.f9 (none,0) (f:=NK b4 []) (E.refl _));refine E.trans ?_ (E.append (E.refl (NK b4 [] (none,0))) (E.f9 (none,0) (f:=NK b5 []) (E.refl _)));simp only[NK,bq,aq,av];refine E.trans (E.c8 aK 3 I5) (E.trans (E.c8 aK 3 I5) ?_);exact aj
 .intro k hk;have b2:k<2*l.length:=by rw[py] at hk;exact hk
  rw[yM];obtain⟨m,a5⟩:∃m,m=k / 2:=⟨_,rfl⟩;have a6:m<l.length:=D;obtain⟨a7,a9⟩:=UM a6 hw (hc m a6);have a3:=oU l cs m;have b0:=oU l cs (m+1);have a2:=MF hw hc m D;unfold SN;by_cases a4:k % 2=0
  .rw[Ω a4,<-a5,show(k+1) / 2=m by omega,show(k+1+1) / 2=m+1 by omega,Hg];generalize PG l cs m=an at a3 a2;generalize Pu l cs m=R;generalize Tk l cs m=x at a7;show Β _ _ _ ((12,.bool true)::(11,bC (aK x))::_) _ _;refine Β.c9 (f:=NK b4 an) ?_;rintro⟨A,c1⟩;simp only[NK,aq,av];refine Yl ?_;intros;refine Y.cM (E.at (Φ:=μ aK 3 I5 A c1 an) (E.refl _)) ?_;refine Y.ca (qS A c1 an x D a2.1 a7) ?_;rintro _ _⟨J,c2,rfl,rfl⟩;refine Yl ?_;intros;refine KX.round ?_;refine E.trans ?_ (E.f9 (J,c2) (f:=NK b4 (bF an x)) (E.refl _));simp only[NK,aq,av];exact aj
  .rw[Ο a4,<-a5,show(k+1) / 2=m+1 by omega,show(k+1+1) / 2=m+1 by omega,wR];generalize PG l cs (m+1)=an;generalize Pu l cs m=R at a3 a2;generalize Rr l cs m=x at a9;show Β _ _ _ ((12,.bool false)::(11,bC (aK x))::_) _ _;refine Β.cM E.swap ?_;refine Β.c9 (f:=NK b5 R) ?_;rintro⟨A,c1⟩;simp only[NK,aq,av];refine Yl ?_;intros;refine Y.cM (E.at (Φ:=μ aK 3 I5 A c1 R) (E.refl _)) ?_;refine Y.ca (qS A c1 R x D a2.2 a9) ?_;rintro _ _⟨J,c2,rfl,rfl⟩;refine Yl ?_;intros;refine KX.round ?_;refine E.trans ?_ (E.swap (Φ:=Tl b5 (bF R x)));refine E.trans ?_ (E.f9 (J,c2) (f:=NK b5 (bF R x)) (E.refl _));simp only[NK,aq,av];exact aj
 .rw[py,show(2*l.length+1) / 2=l.length by omega,show 2*l.length / 2=l.length by omega];generalize PG l cs l.length=an;generalize Pu l cs l.length=R;simp only[aJ];refine KX.c7 (KX.f8 ?_);refine Β.c9 (f:=NK b4 an) ?_;rintro⟨A,c1⟩;refine Β.cM (Ε:=Tl b5 R::NK b4 an (A,c1)) (E.perm (by simp only[NK,aq,av];exact(List.Perm.cons _ (List.Perm.swap _ _ _)).trans (List.Perm.swap _ _ _))) ?_;refine Β.c9 (f:=NK b5 R) ?_;rintro⟨J,c2⟩;simp only[NK,aq,av];refine Yl ?_;intros;refine KX.a8 (vs:=[ae A an.length c1,ae J R.length c2]) (C9.a8 rfl (C9.a8 rfl C9.nil)) ?_ ⟨A,c1,J,c2,rfl,rfl⟩;exact aj
def QO(l:π)(m:Int):Nat->Int
 | 0=>m
 | k+1=>QO l m k - min (QO l m k) l[k]!.2.2
def PI(l:π)(m:Int)(k:Nat):Int:=min (QO l m k) l[k]!.2.2
theorem zL{l:π}{m:Int}(h0:0<=m)(hw:∀x∈l,J9 x):∀k,k<=l.length->0<=QO l m k/\QO l m k<=m
 | 0,_=>⟨h0,bE _⟩
 | k+1,hk=>by
  have ih:=zL h0 hw k D;grind [bI,J9,QO]
theorem qW{l:π}{m:Int}(h0:0<=m)(hw:∀x∈l,J9 x)(k:Nat)(hk:k<l.length):0<=PI l m k/\PI l m k<=l[k]!.2.2:=by
 have I:=zL h0 hw k D;grind [bI,J9,PI]
abbrev C3:Nat:=3
def Tm(bn bl:Nat)(ad:OA)(c:Nat)(l:π)(m:Int)(k:Nat):Ι:=[obj bn C3 [K (QO l m k)],obj bl gw [ae ad l.length c],τ aK 3 ad l]
abbrev DJ:=Yt []
def wL(bn bl:Nat)(ad:OA)(c:Nat)(l:π)(m:Int)(hm:l.length<=1000000)(h0:0<=m)(I:m<=1099511627776)(hw:∀x∈l,J9 x) :
  va 318 [ay bn,ay bl] l.length (PI l m) (λk=>cw (Tm bn bl ad c l m k)):=by
 intro k hk L;have J:(k:Int).toNat=k:=D;have hb:=zL h0 hw k D;have A:=qW h0 hw k hk;have a2:=hw _ (bI hk);unfold J9 at a2;unfold PI at A;rw[<-J] at a2 A;rw[J] at A;refine Υ.bd (args:=[K (k:Int),ay bn,ay bl]) ?_;refine Β.cM E.SL ?_;simp only[Tm,aq,av];repeat first|refine ab ?_|intro _|((with_reducible apply Β.a8);first|refine Β.dr 17 1 DJ ?_)
 rw[J];exact KX.a8 aC (E.f8 (Φ:=[_,_,_]) (L:=L)) ⟨rfl,rfl⟩
def lJ{L:Ι}(ad:OA)(n c:Nat)(G:π)[F5 L ad iK aK 3 G](hn:n=G.length)(hb:G.length<=4096)(M:∀l∈G,a0 l) :
  Υ Λ 17 #[ae ad n c] L (F7 (K (aW G)) L):=by
 refine Υ.bd ?_;refine ML ?_;intros;refine Y.ca (km ad n c G hn hb M) ?_;rintro _ L ⟨rfl,rfl⟩;refine ML ?_;intros;refine Y.ca (lG ad n c G hn hb M) ?_;rintro _ L ⟨rfl,rfl⟩;refine ML ?_;intros;exact KX.en ⟨rfl,rfl⟩
def gU{φ ψ:Prop}(k:ψ)(h:Hid ψ->φ:=by intro k;first|refine Y.ci (f:=311) (Hid.out k)|refine δ.ci (f:=311) (Hid.out k)|refine Y.cf (f:=311) rfl (Hid.out k)|refine δ.cf (f:=311) rfl (Hid.out k)|refine KX.RY (Hid.out k)):φ:=h ⟨k⟩
def Ym{φ ψ:Prop}(k:ψ)(h:Hid ψ->φ:=by intro k;(repeat (first|refine ab ?_|intro B8|refine gU ?_));(repeat revert B8);exact Hid.out k):φ:=h ⟨k⟩
def Dq{L:Ι}(ad:OA)(c:Nat)(G:π)(n:Int)(mixed:Bool)(a3:mixed=false)(hb:G.length<=4096)(M:∀l∈G,a0 l)(a2:0<=n)(a4:n<=1099511627776) :
  Υ Λ 300 #[ae ad G.length c,K n,.bool mixed] (τ aK 3 ad G::L) (λv Ε =>
   (aW G<n/\v=.tuple #[ae none 0 0,ae none 0 0,K 10]/\Ε = τ aK 3 ad G::L) \/
   (n<=aW G/\∃A c1 J c2,v=.tuple #[ae A (PG G (PI G n) G.length).length c1,ae J (Pu G (PI G n) G.length).length c2,K 0]/\Ε = μ aK 3 I5 A c1 (PG G (PI G n) G.length)::μ aK 3 I5 J c2 (Pu G (PI G n) G.length)::τ aK 3 ad G::L)):=by
 subst a3;have hw:∀x∈G,J9 x:=λx h=>(M x h).w;refine Υ.bd ?_;refine Ym ?_;intros;refine Y.cr (km ad G.length c G rfl hb M) ?_;refine Ym ?_;intros;refine Y.cr (lJ ad G.length c G rfl hb M) ?_;by_cases hs:aW G<n
 .refine Ym ?_;intros;exact KX.a8 aC (E.refl _) (.inl ⟨hs,rfl,rfl⟩)
 refine Ym ?_;intros;rename_i bl bn;refine Y.cM (Ε:=cw (Tm bn bl ad c G n 0)::τ aK 3 ad G::τ aK 3 ad G::L) ?_ ?_
 .refine E.trans ?_ E.f8;simp only[Tm,QO,aq,av];refine(E.at (Φ:=τ aK 3 ad G) (E.dup (lC _ _ _ _))).trans ?_;refine(E.dup (lC _ _ _ _)).trans ?_;exact aj
 (first|refine Y.ef (Ef.call (oA _ _ ad c G (PI G n) (λk=>cw (Tm bn bl ad c G n k)) D hw (qW a2 hw) (wL bn bl ad c G n D a2 a4 hw)) rfl fT) ac ?_);rintro _ _⟨_,⟨A,c1,J,c2,rfl,rfl⟩,hL⟩;simp only[aq,av] at hL;subst hL;refine Ym ?_;intros;exact KX.a8 aC (E.refl _) (.inr ⟨D,A,c1,J,c2,rfl,rfl⟩)
