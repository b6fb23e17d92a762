/- Lemmas. -/
import Derived.Test.YtlgpgjdggilkgaaGreatDoorEraz
set_option linter.all false
set_option maxHeartbeats 4000000
namespace Go.Proofs.YtlgpgjdggilkgaaGreatDoor
section
open Go.V
instance:Rf Ε 73 [false,false,false]:=⟨Γ,Γ,Γ,Γ⟩
attribute [local irreducible] Δ R GP Ο h2 GF GE O Ef A8 A CB GB V.Enters
def yO{L:LH}(b' : Nat)(S:Χ)(x:Jl)(k:Nat)(hF:M3 S x)(hG:MX k S)(hk:k<=4096)(hS:nV S.ο S.Ι)(r:S.Ι.length<=100000) :
  Λ Ε 21 #[.pointer (some ⟨b',0,none⟩)] (JH b' S.kQ x L) (λv Y=>∃M cap hs,v=ae M hs.length cap/\(OZ (PB S) hs/\hs.length<=4194304)/\Y = Υ gE 3 MU M cap hs::JH b' S.kQ x L):=by
 have q:=rD (L:=τ cu KH x.mt x.gr::τ cu ey.v x.mi x.imp::τ cu ey.v x.mr x.ret::Ρ eJ x.hx::L) b' (S.Pz x) x hF.Sf (Di hG hk x) hS r;rw[show(S.Pz x).kQ=S.kQ from rfl] at q;refine(q.pre (by simp only[JH];exact ag)).LO ?_;rintro _ _⟨M,cap,hs,J,U,rfl⟩;refine⟨_,⟨M,cap,hs,J,U,rfl⟩,?_⟩;simp only[JH];exact ag
abbrev AI:=Uw [.ev 8]
def NZ{φ ψ:Prop}(k:ψ)(h:Hid ψ->φ:=by intro k;(repeat (first|refine aa ?_|intro sh|refine Δ.dr 41 8 AI ?_));(repeat revert sh);exact Hid.out k):φ:=h ⟨k⟩
def wg{L:LH}(b b' : Nat)(S:Χ)(x:Jl)(k:Nat)(hF:M3 S x)(hG:MX k S)(hk:k<=4096)(hS:nV S.ο S.Ι)(a7:S.Ι.length<=100000)(a9:∀s∈S.hx,s.cM.length<=64/\∀u∈s.cM,u.Ζ.length<=1000000) :
  Λ Ε 35 #[al b,.pointer (some ⟨b',0,none⟩)] (aN b (S.view (x.B8,x.hx) (x.A7,x.Ι))::JH b' S.kQ x L) (C9 (.bool true) (aN b (S.view (x.B8,x.hx) (x.A7,x.Ι))::JH b' S.kQ x L)):=by
 obtain⟨SV,a2⟩:∃SV,S.view (x.B8,x.hx) (x.A7,x.Ι)=SV:=⟨_,rfl⟩;have c6:S.hx.length<=65536:=hG.hx;have b7:x.hx.length=S.hx.length:=by rw[<-hF.hx,ah]
 have b5:∀m∈x.hx,m.cM.length<=64/\∀u∈m.cM,u.m.Ζ.length<=1000000:=λm hm=>by
  have J:=a9 m.m (by rw[<-hF.hx];exact Kg hm);exact⟨by have:=J.1;simpa [E8.m] using this,λu hu=>J.2 u.m (Kg hu)⟩
 have c1:∀ξ:LH,Λ Ε _ _ _ _:=λξ=>we (L:=ξ) b SV k (by rw[<-a2];exact⟨hG.kQ,hG.hx,hG.Ι,hG.ο,hG.gr,hG.fl⟩) hk (by rw[<-a2];exact hS) (by rw[<-a2];exact a7);have a5:PB SV=PB S:=by rw[<-a2];rfl
 rw[a5] at c1;have c2:∀ξ:LH,Λ Ε _ _ _ _:=λξ=>xu (L:=ξ) b SV (by rw[<-a2];exact a9) (by rw[<-a2];show S.hx.length<=100000;omega);have c3:∀ξ:LH,Λ Ε _ _ _ _:=λξ=>xv (L:=ξ) b b' SV x (by rw[<-a2];rfl) b5 B;have e1:SV.hx.length=S.hx.length:=by rw[<-a2];rfl
 have e2:SV.kQ=S.kQ:=by rw[<-a2];rfl
 rw[e1] at c2;rw[e2] at c3;rw[a2];clear a2 a5 e1 e2;refine Λ.bd ?_;refine NZ ?_;intros;refine R.ca (c1 _) ?_;rintro _ _⟨a4,I,r,rfl,⟨b2,c4⟩,rfl⟩;refine NZ ?_;intros;refine R.υ (Y:=JH b' S.kQ x (Υ gE 3 MU a4 I r::aN b SV::L)) (by simp only[JH];exact ag) ?_;refine R.ca (yO b' S x k hF hG hk hS a7) ?_;rintro _ _⟨a6,a3,b6,rfl,⟨b3,c5⟩,rfl⟩;obtain rfl:r=b6:=b2.unique b3 λ_ _=>rfl;refine NZ ?_;intros;refine R.υ (Y:=aN b SV::Υ gE 3 MU a6 a3 r::Υ gE 3 MU a4 I r::JH b' S.kQ x L) (by simp only[JH];exact ag) ?_;refine R.ca (c2 _) ?_;rintro _ _⟨b8,b0,rfl,rfl⟩;refine NZ ?_;intros;refine R.υ (Y:=aN b SV::JH b' S.kQ x (Υ gE 3 MU a6 a3 r::Υ gE 3 MU a4 I r::L)) (by simp only[JH];exact ag) ?_;refine R.ca (c3 _) ?_;rintro _ _⟨b9,b1,rfl,rfl⟩;rw[b7];refine NZ ?_;intros;refine Δ.loop (α:=Nat) (λi=>i<=r.length) (λi=>[(5,ae a4 r.length I),(6,ae a6 r.length a3),(7,E (i:Int))]) (λi=>Υ gE 3 MU a6 a3 r::Υ gE 3 MU a4 I r::aN b SV::JH b' S.kQ x L) (λi=>r.length - i) 0 (aC _) aA (by simp only[JH];exact ag) ?_;rintro i hi;by_cases c0:i<r.length
 case neg =>
  refine NZ ?_;intros;exact KX.en ⟨rfl,rfl⟩
 have b4:(i:Int)<(r.length:Int):=B;refine NZ ?_;intros;refine Ο.H6 (O.z7 (cs:=gE r[(i:Int).toNat]!) rfl rfl rfl) ac ?_;refine NZ ?_;intros;refine⟨i+1,B,B,?_,A.refl _⟩;rw[bC i];exact aA
end
section
open Go.V
abbrev gM(l:List Int):Prop:=∀x∈l,0<=x/\x<=255
def HU:∀m,m<256->m ||| 128=m % 128+128:=by decide +kernel
def HF:∀m,m<256->m &&& 127=m % 128:=by decide +kernel
def uv(n:Nat):List Int:=if h:n<128 then[(n:Int)] else((n % 128+128:Nat):Int)::uv (n / 128)
termination_by n
decreasing_by omega
theorem lC{n:Nat}(h:n<128):uv n=[(n:Int)]:=by rw[uv,dif_pos h]
theorem oo{n:Nat}(h:¬n<128):uv n=((n % 128+128:Nat):Int)::uv (n / 128):=by rw[uv,dif_neg h]
theorem kc(n:Nat):gM (uv n):=by
 induction n using Nat.strongRecOn with
 | _ n ih =>
  grind [lC,oo]
theorem Hf(k:Nat):∀n,n<128 ^ (k+1)->(uv n).length<=k+1:=by
 induction k with
 | zero=>grind [lC]
 | succ k ih =>
  grind [oo]
theorem fZ{n:Nat}(h:n<18446744073709551616):(uv n).length<=10:=Hf 9 n (by
 omega)
def LD:List Int->Nat->Nat->Nat×Int×List Int
 | [],_,_=>(0,3,[])
 | b::t,i,acc=>if(i=9/\1<b)\/(0<i/\b=0) then(0,2,t) else if b<128 then(acc+b.toNat % 128*128 ^ i,0,t) else LD t (i+1) (acc+b.toNat % 128*128 ^ i)
def zz(n:Int):Nat:=if n<0 then 2*(-(n+1)).toNat+1 else 2*n.toNat
def PC(u:Nat):Int:=if u % 2=1 then -((u / 2:Nat):Int) - 1 else((u / 2:Nat):Int)
def jI{n:Int}(h0 : -9223372036854775808<=n)(J:n<=9223372036854775807):zz n<18446744073709551616:=by unfold zz;split<;>omega
theorem FV(n:Int):PC (zz n)=n:=by
 grind [PC,zz]
def lY{i:Nat}(h:i<=9):(128:Nat) ^ i<=9223372036854775808:=by
 have J:(128:Nat) ^ i<=128 ^ 9:=Nat.pow_le_pow_right ac h;omega
def EN{a c i:Nat}(ha:a<128 ^ i)(hc:c*128 ^ i<18446744073709551616):a ||| (c*2 ^ (7*i) % 18446744073709551616)=a+c*128 ^ i:=by
 have e:(2:Nat) ^ (7*i)=128 ^ i:=by rw[Nat.pow_mul]
 rw[e,Nat.mod_eq_of_lt hc,Nat.or_comm,nat_join (7*i) (c*128 ^ i) a (by rw[e];exact Nat.mul_mod_left _ _) B,Nat.add_comm]
theorem CG:∀(l:List Int) (i acc:Nat),gM l->i<=9->acc<128 ^ i->(LD l i acc).1<18446744073709551616
 | [],_,_,_,_,_=>by simp[LD]
 | b::t,i,acc,hb,hi,ha=>by
  have J:=hb b bR;have hp:=lY hi;simp only[LD];split
  .simp
  .rename_i r;have hm:=dA b.toNat (show 0<128 by decide);have I:b.toNat % 128*128 ^ i<=127*128 ^ i:=bK _ B;by_cases h9:i=9
   .grind
   .have a2:(128:Nat) ^ (i+1)<=9223372036854775808:=lY B;have a3:(128:Nat) ^ (i+1)=128 ^ i*128:=B;split
    .omega
    .exact CG t (i+1) _ ay B B
theorem Hm(n:Nat):∀(ic:List Int) (i acc:Nat),i<=9->(0<i->n≠0)->n*128 ^ i<18446744073709551616->LD (uv n++ic) i acc=(acc+n*128 ^ i,0,ic):=by
 induction n using Nat.strongRecOn with
 | _ n ih =>
  intro ic i acc hi h0 a3;have I:0<(128:Nat) ^ i:=ay;by_cases h:n<128
  .grind [lC,LD]
  .rw[oo h]
   have a2:i≠9:=by
    intro h9;subst h9;have U:128*128 ^ 9<=n*128 ^ 9:=B;have h3:(128:Nat) ^ 9=9223372036854775808:=by decide
    omega
   have r:¬((i=9/\(1:Int)<((n % 128+128:Nat):Int))\/(0<i/\((n % 128+128:Nat):Int)=0)):=by
    rintro (⟨h9,J⟩|⟨h9,J⟩)
    .omega
    .omega
   simp only[aj,LD];rw[Ω r,Ω B,aZ,show(n % 128+128) % 128=n % 128 by omega];have hp:(128:Nat) ^ (i+1)=128 ^ i*128:=B
   have hq:n / 128*128 ^ (i+1)+n % 128*128 ^ i=n*128 ^ i:=by
    rw[hp,Nat.mul_comm (128 ^ i) 128,<-Nat.mul_assoc,<-dl];congr 1;omega
   grind
theorem Gk{n:Nat}(h:n<18446744073709551616)(ic:List Int):LD (uv n++ic) 0 0=(n,0,ic):=by
 grind [Hm]
abbrev MH(b:Nat)(D:List Int)(x:Ns)(L:LH):LH:=obj b 368 [ae x.M D.length x.cap]::Υ (a0 .u8) 1 5 x.M x.cap D::L
def LF(b:Nat)(D:List Int):HP:=hex λx:Ns=>bW (MH b D x [])
def mN{b:Nat}{D:List Int}{L:LH}(x:Ns):A (MH b D x L) (LF b D::L):=A.f9 (f:=λx=>MH b D x []) x (A.refl _)
attribute [local irreducible] Δ R GP Ο h2 GF GE O Ef A8 A CB GB V.Enters
def qj{L:LH}(M:OA)(n c:Nat)(D:List Int)[C7 L M Int (a0 .u8) 1 D](hn:n=D.length)(hb:n<=1000000000) :
  Λ Ε 279 #[ae M n c] L (λv Y=>∃I r,v=ae I D.length r/\Y = Υ (a0 .u8) 1 5 I r D::L):=by
 refine Λ.bd ?_;repeat' first|refine aa ?_|intro _|with_reducible refine CB.dec (λ_=>?_) (λ_=>?_)|with_reducible refine GB.dec (λ_=>?_) (λ_=>?_)|with_reducible refine CB.bool (λ_=>?_) (λ_=>?_)|with_reducible refine GB.bool (λ_=>?_) (λ_=>?_)
 .have h:M=none:=by assumption
  subst h;refine KX.f9 (.inl rfl) (mT (L:=L) (D:=D)) ?_;intro K;subst K;refine KX.a8 aw (A.c8 (a0 .u8) 1 5) ⟨_,_,rfl,rfl⟩
 .refine R.υ (A.d9 (Β:=a0 .u8) (sz:=1) (D:=[]) rfl rfl bR bR) ?_;refine R.ef (Ef.c9 rfl rfl rfl rfl hn (λe _=>ga _ e) gg gg) ac ?_;rintro _ _⟨I,r,rfl,rfl⟩;refine Ih ?_;intros;refine KX.a8 aw (A.refl _) ⟨I,r,rfl,rfl⟩
theorem qV{L:LH}(b:Nat)(D:List Int)(n:Nat)(hn:n<18446744073709551616)(K:D.length<=1000000) :
  Λ Ε 306 #[al b,.int .u64 n] (LF b D::L) (λ_ Y=>Y = LF b (D++uv n)::L):=by
 have a5:=fZ hn;refine Λ.bd (args:=[al b,.int .u64 (n:Int)]) ?_;refine Δ.c8 (f:=λx=>MH b D x []) ?_;intro x;simp only[aj,ak];refine Ih ?_;intros;refine Δ.loop (α:=Nat×List Int×Ns) (λg=>g.1<18446744073709551616/\g.2.1++uv g.1=D++uv n) (λg=>[(0,al b),(1,.int .u64 (g.1:Int))]) (λg=>MH b g.2.1 g.2.2 L) (λg=>g.1) (n,D,x) ⟨hn,rfl⟩ aA (A.refl _) ?_;rintro⟨m,ys,y⟩ ⟨hm,a2⟩;simp only[] at hm a2 ⊢;have a4:=congrArg List.length a2;simp only[aq] at a4;by_cases I:m<128
 .rw[lC I] at a2;refine Ih ?_;intros;refine R.ef (Ef.a8 (e:=(m:Int)) rfl rfl rfl rfl rfl aS (ga _ _) B B) ac ?_;rintro _ _⟨a3,r,rfl,rfl⟩;rw[a2];refine Ih ?_;intros;refine KX.c8 aw ?_ rfl;refine A.trans ?_ (mN ⟨a3,0,r⟩);simp only[MH];exact ag
 .rw[oo I] at a2;refine Ih ?_;intros
  have e1:IntKind.u8.wrap (m:Int)=((m % 256:Nat):Int):=by
   rw[IntKind.wrap_u8'];omega
  rw[e1];refine R.ev (O.Tm rfl rfl B B ac ac) ac ?_;rw[aZ,show(128:Int).toNat=128 from rfl,HU (m % 256) B,show m % 256 % 128=m % 128 by omega];refine Ih ?_;intros;refine R.ef (Ef.a8 (e:=((m % 128+128:Nat):Int)) rfl rfl rfl rfl rfl aS (ga _ _) B B) ac ?_;rintro _ _⟨a3,r,rfl,rfl⟩;refine Ih ?_;intros;refine R.ev (O.shr rfl rfl ac) ac ?_
  have e2:((m:Nat):Int).fdiv (2 ^ min ((7:Int).toNat) IntKind.u64.bits)=((m / 128:Nat):Int):=by
   rw[dh _ ac];simp[IntKind.bits]
  rw[e2];refine Ih ?_;intros;refine⟨(m / 128,ys++[((m % 128+128:Nat):Int)],⟨a3,0,r⟩),⟨B,ay⟩,B,aA,?_⟩;simp only[MH];exact ag
theorem Em{x:Nat}(h:x<18446744073709551616):x ^^^ 18446744073709551615=18446744073709551615 - x:=by
 have J:(BitVec.ofNat 64 x ^^^ BitVec.allOnes 64).toNat=(~~~ BitVec.ofNat 64 x).toNat:=by rw[BitVec.xor_allOnes]
 grind
theorem xn(n:Int)(h0 : -9223372036854775808<=n)(J:n<=9223372036854775807) :
  Λ Ε 307 #[E n] [] (λv L=>v=.int .u64 (zz n)/\L=[]):=by
 refine Λ.bd ?_;refine Ih ?_;intros;refine R.ev (O.shl rfl rfl ac) ac ?_;refine Ih ?_;intros;refine R.ev (O.shr rfl rfl ac) ac ?_;refine Ih ?_;intros;have e0:min ((1:Int).toNat) IntKind.u64.bits=1:=by decide
 have r:min ((63:Int).toNat) IntKind.i64.bits=63:=by decide
 rw[e0,r];by_cases hn:n<0
 .have e1:IntKind.u64.wrap (IntKind.u64.wrap n*2 ^ 1)=(((18446744073709551616+2*n).toNat:Nat):Int):=by
   rw[IntKind.wrap_u64,IntKind.wrap_u64];omega
  have e2:IntKind.u64.wrap (n.fdiv (2 ^ 63))=((18446744073709551615:Nat):Int):=by
   rw[dh _ ac,IntKind.wrap_u64];omega
  rw[e1,e2];refine R.ev (O.w0 rfl rfl B B B B) ac ?_;rw[aZ,aZ,Em B];refine Ih ?_;intros;refine KX.a8 aw (A.refl _) ⟨?_,rfl⟩;grind [KD,zz]
 .have e1:IntKind.u64.wrap (IntKind.u64.wrap n*2 ^ 1)=((2*n.toNat:Nat):Int):=by
   rw[IntKind.wrap_u64,IntKind.wrap_u64];omega
  have e2:IntKind.u64.wrap (n.fdiv (2 ^ 63))=((0:Nat):Int):=by
   rw[dh _ ac,IntKind.wrap_u64];omega
  rw[e1,e2];refine R.ev (O.w0 rfl rfl B B B B) ac ?_;rw[aZ,aZ,Nat.xor_zero];refine Ih ?_;intros;refine KX.a8 aw (A.refl _) ⟨?_,rfl⟩;simp only[KD,zz,Ω hn]
def kG{L:LH}(b:Nat)(D:List Int)(n:Int)(h0 : -9223372036854775808<=n)(J:n<=9223372036854775807)(K:D.length<=1000000) :
  Λ Ε 284 #[al b,E n] (LF b D::L) (λ_ Y=>Y = LF b (D++uv (zz n))::L):=by
 refine Λ.bd ?_;refine Ih ?_;intros;(first|refine R.ef (Ef.call (xn n h0 J) rfl eY) ac ?_);rintro _ _⟨_,⟨rfl,rfl⟩,hL⟩;simp only[aj,ak] at hL;subst hL;refine R.ef (Ef.k6 (qV b D (zz n) (jI h0 J) K) rfl) ac ?_;rintro _ _ rfl;refine Ih ?_;intros;exact KX.c8 aw (A.refl _) rfl
def Ae{L:LH}(b:Nat)(D:List Int)(K:D.length<=1000000000) :
  Λ Ε 287 #[al b] (LF b D::L) (λv Y=>∃M cap,v=ae M D.length cap/\D.length<=cap/\Y = Υ (a0 .u8) 1 5 M cap D::LF b D::L):=by
 refine Λ.bd ?_;refine Δ.c8 (f:=λx=>MH b D x []) ?_;intro x;simp only[aj,ak];refine Ih ?_;intros;refine R.ca (qj _ _ _ D rfl K) ?_;rintro _ _⟨I,r,rfl,rfl⟩;refine R.g9 (ke (M:=I)) ?_;rintro⟨a2,_⟩;refine Ih ?_;intros;exact KX.a8 aw (A.c7 (mN x)) ⟨I,r,rfl,a2,rfl⟩
def Af{L:LH}(b:Nat)(D:List Int)(t:Bool)(K:D.length<=1000000) :
  Λ Ε 285 #[al b,.bool t] (LF b D::L) (λ_ Y=>Y = LF b (D++[if t=true then 1 else 0])::L):=by
 refine Λ.bd ?_;refine Δ.c8 (f:=λx=>MH b D x []) ?_;intro x;simp only[aj,ak];cases t with
 | true =>
  refine Ih ?_;intros;refine R.ef (Ef.a8 (e:=(1:Int)) rfl rfl rfl rfl rfl aS (ga _ _) B B) ac ?_;rintro _ _⟨I,r,rfl,rfl⟩;refine Ih ?_;intros;refine KX.c8 aw ?_ rfl;refine A.trans ?_ (mN ⟨I,0,r⟩);simp only[MH];exact ag
 | false =>
  refine Ih ?_;intros;refine R.ef (Ef.a8 (e:=(0:Int)) rfl rfl rfl rfl rfl aS (ga _ _) B B) ac ?_;rintro _ _⟨I,r,rfl,rfl⟩;refine Ih ?_;intros;refine KX.c8 aw ?_ rfl;refine A.trans ?_ (mN ⟨I,0,r⟩);simp only[MH];exact ag
def JP(l:List Int):List Int:=l.flatMap λn=>uv (zz n)
theorem lz:∀{l:List Int},(∀x∈l,id x)->(JP l).length<=10*l.length
 | [],_=>au _
 | n::l,h=>by
  have J:=lz (l:=l) (λx K=>h x (aB _ K));obtain⟨U,h3⟩:=h n az;have h4:=fZ (jI U h3);show(uv (zz n)++JP l).length<=10*(l.length+1);rw[aq];omega
theorem Fc(l:List Int)(n:Int):JP (l++[n])=JP l++uv (zz n):=by
 grind [JP]
theorem qW{L:LH}(b:Nat)(D:List Int)(M:OA)(n c:Nat)(ys:List Int)[hrd:C7 L M Int (a0 .i64) 1 ys](hn:n=ys.length)(Z:∀y∈ys,id y)(K:D.length+10*ys.length+10<=1000000) :
  Λ Ε 286 #[al b,ae M n c] (LF b D::L) (λ_ Y=>Y = LF b (D++uv ys.length++JP ys)::L):=by
 subst hn;have a6:=fZ (n:=ys.length) B;refine Λ.bd ?_;refine Ih ?_;intros;refine R.ca (qV b D ys.length B B) ?_;rintro _ _ rfl;refine Ih ?_;intros;refine Δ.loop (α:=Nat) (λi=>i<=ys.length) (λi=>[(0,al b),(11,ae M ys.length c),(12,E (ys.length:Int)),(13,E (i:Int))]) (λi=>LF b (D++uv ys.length++JP (ys.take i))::L) (λi=>ys.length - i) 0 B aA (by rw[aU];show A _ (LF b (D++uv ys.length++[])::L);rw[aJ];exact A.refl _) ?_;intro i hi;by_cases I:i<ys.length
 case neg =>
  rw[aG B];refine Ih ?_;intros;exact KX.c8 aw (A.refl _) rfl
 have a2:(i:Int).toNat=i:=B;have hm:=Z _ (bA I);obtain⟨a4,a5⟩:=hm;have a3:=lz (l:=ys.take i) ay;rw[aK] at a3
 have r:(D++uv ys.length++JP (ys.take i)).length<=1000000:=by
  rw[aq,aq];omega
 refine Ih ?_;intros;rw[a2];refine R.ca (kG b (D++uv ys.length++JP (ys.take i)) ys[i]! a4 a5 r) ?_;rintro _ _ rfl;refine Ih ?_;intros;refine⟨i+1,B,B,?_,?_⟩
 .rw[bC i];exact aA
 .rw[av I,Fc,<-C5 I,ax (D++uv ys.length)];exact A.refl _
end
section
open Go.V
theorem GG{α:Type}{Β:α->LV}{sz:Nat}{M:OA}{D:List α}{cap:Nat}(hc:D.length<=cap)(k:Nat){L:LH}:A (ε Β sz M D::L) (ε Β sz (Jk M cap sz k) (D.drop k)::L):=by
 refine A.o0 λθ Α w s=>?_;obtain⟨ok,ι,h,a,b1,c,F9,D7,C3,d1,d2,d3,d4,⟨e1,e2⟩,d6⟩:=s;refine⟨ok,ι,h,a,b1,c,F9,D7,C3,d1,d2,d3,d4,⟨λx K=>ay,?_⟩,d6⟩;rcases e2 with rfl|⟨g,off,I,Τ,fz,rfl,f1,f2⟩
 .grind
 by_cases hk:D.length<=k
 .exact .inl (List.drop_eq_nil_of_le hk)
 .right;have a2:¬cap=k:=B;refine⟨g,off+k*sz,I,Τ,fz,?_,f1,?_⟩
  .grind [Jk,gG]
  .intro i v hv
   have r:∀(l:List α) (k:Nat),(∀x∈l,(Β x).length=sz)->(l.drop k).flatMap Β=(l.flatMap Β).drop (k*sz):=by
    intro l;induction l with
    | nil=>intro k _;simp
    | cons y l ih =>
     intro k hl;cases k with
     | zero=>simp
     | succ k =>
      have Z:=hl y bR;simp only[List.drop_succ_cons,aR];have J:(Β y).drop ((k+1)*sz)=[]:=by grind [bN]
      rw[ih k ay,List.drop_append,J,Z,gA,Nat.add_sub_cancel,ak]
   grind
abbrev NV(b:Nat)(ic:List Int)(err:Int)(x:Ns)(L:LH):LH:=dp (ic.length<=x.cap)::obj b 363 [ae x.M ic.length x.cap,E err]::ε (a0 .u8) 1 x.M ic::L
def J5(b:Nat)(ic:List Int)(r:Int):HP:=hex λx:Ns=>bW (NV b ic r x [])
def fF{b:Nat}{ic:List Int}{r:Int}{L:LH}(x:Ns)(h:ic.length<=x.cap):A (obj b 363 [ae x.M ic.length x.cap,E r]::ε (a0 .u8) 1 x.M ic::L) (J5 b ic r::L):=A.f9 (f:=λx=>NV b ic r x []) x (A.pure h (A.refl _))
attribute [local irreducible] Δ R GP Ο h2 GF GE O Ef A8 A CB GB V.Enters
def CF{L:LH}(M:OA)(n c:Nat)(D:List Int)[hrd:C7 L M Int (a0 .u8) 1 D](hn:n=D.length)(hm:n<=1000000000) :
  Λ Ε 197 #[ae M n c] L (λv Y=>∃b,v=al b/\Y = J5 b D 0::L):=by
 refine Λ.bd ?_;refine Ih ?_;intros;refine R.ca (qj _ _ _ D hn hm) ?_;rintro _ _⟨I,r,rfl,rfl⟩;refine R.g9 (ke (M:=I)) ?_;rintro⟨a2,_⟩;refine Ih ?_;intros;rename_i b;refine KX.a8 aw ?_ ⟨b,rfl,rfl⟩;refine A.trans ?_ (fF ⟨I,0,r⟩ a2);exact A.c7 A.JC
def Lo(ic:List Int)(r:Int):Int×List Int×Int:=if r≠0 then(0,ic,r) else match ic with
 | []=>(0,[],3)
 | b::t=>(b,t,0)
theorem rq{L:LH}(b:Nat)(ic:List Int)(I:Int) :
  Λ Ε 282 #[al b] (J5 b ic I::L) (C9 (.int .u8 (Lo ic I).1) (J5 b (Lo ic I).2.1 (Lo ic I).2.2::L)):=by
 refine Λ.bd ?_;refine Δ.c8 (f:=λx=>NV b ic I x []) ?_;intro x;simp only[aj,ak];refine Δ.d7 ?_;intro r;by_cases he:I=0
 case neg =>
  refine Ih ?_;intros;refine KX.a8 aw (fF x r) ⟨?_,?_⟩
  .simp[Lo,he,KD]
  .simp[Lo,he]
 subst he;cases ic with
 | nil =>
  refine Ih ?_;intros;exact KX.a8 aw (fF x r) ⟨by simp[Lo,KD],by simp[Lo]⟩
 | cons y t =>
  have a3:(y::t).length=t.length+1:=rfl;have a2:((y::t).length:Int)=t.length+1:=by simp
  refine Ih ?_;intros;refine KX.a8 aw ?_ ⟨by simp[Lo,KD],rfl⟩;rw[show Lo (y::t) 0=(y,t,0) by simp[Lo]];refine A.trans ?_ (fF ⟨Jk x.M x.cap 1 1,0,x.cap - 1⟩ ay);exact A.c7 (GG (D:=y::t) r 1)
def Gs{ic:List Int}{r:Int}(h:r≠0):Lo ic r=(0,ic,r):=by simp[Lo,h]
def gS(ic:List Int)(r:Int):Nat×List Int×Int:=if r≠0 then(0,ic,r) else((LD ic 0 0).1,(LD ic 0 0).2.2,(LD ic 0 0).2.1)
def rm{L:LH}(b:Nat)(ic:List Int)(a2:Int)(hb:gM ic) :
  Λ Ε 281 #[al b] (J5 b ic a2::L) (C9 (.int .u64 (gS ic a2).1) (J5 b (gS ic a2).2.1 (gS ic a2).2.2::L)):=by
 refine Λ.bd ?_;refine Ih ?_;intros;refine Δ.loop (α:=Nat×Nat×List Int) (λg=>g.1<=9/\g.2.1<128 ^ g.1/\gM g.2.2/\(a2=0->LD g.2.2 g.1 g.2.1=LD ic 0 0)/\(a2≠0->g.2.2=ic)) (λg=>[(0,al b),(3,.int .u64 (g.2.1:Int)),(4,E (g.1:Int))]) (λg=>J5 b g.2.2 a2::L) (λg=>9 - g.1) (0,0,ic) ⟨by simp,by simp,hb,λ_=>rfl,λ_=>rfl⟩ aA (A.refl _) ?_;rintro⟨i,acc,l⟩ ⟨hi,ha,hl,hr,a3⟩;simp only[] at hi ha hl hr a3 ⊢;refine Ih ?_;intros;refine R.ef (Ef.k6 (rq b l a2) rfl) ac ?_;rintro _ _⟨rfl,rfl⟩;by_cases he:a2=0
 case neg =>
  rw[Gs he,a3 he];refine Ih ?_;intros;refine R.c8 (f:=λx=>NV b ic a2 x []) ?_;intro x;simp only[aj,ak];refine R.d7 ?_;intro r;refine Ih ?_;intros;exact KX.a8 aw (fF x r) ⟨by simp[gS,he,KD],by simp[gS,he]⟩
 subst he;have hrd:=hr rfl;clear hr a3;cases l with
 | nil =>
  rw[show Lo [] 0=(0,[],3) by simp[Lo]];refine Ih ?_;intros;refine R.c8 (f:=λx=>NV b [] 3 x []) ?_;intro x;simp only[aj,ak];refine R.d7 ?_;intro r;refine Ih ?_;intros
  have e:gS ic 0=(0,[],3):=by
   simp only[gS,<-hrd];simp[LD]
  exact KX.a8 aw (fF x r) ⟨by rw[e];rfl,by rw[e]⟩
 | cons y t =>
  rw[show Lo (y::t) 0=(y,t,0) by simp[Lo]];have Z:=hl y bR;have ht:gM t:=λx K=>hl x (aB _ K);refine Ih ?_;intros;refine R.c8 (f:=λx=>NV b t 0 x []) ?_;intro x;simp only[aj,ak];refine R.d7 ?_;intro r;by_cases I:(i=9/\1<y)\/(0<i/\y=0)
  .have e:gS ic 0=(0,t,2):=by
    simp only[gS,<-hrd,LD];simp[I]
   rcases I with⟨h9,J⟩|⟨h9,J⟩
   .refine Ih ?_;intros;exact KX.a8 aw (fF x r) ⟨by rw[e];rfl,by rw[e]⟩
   .by_cases a9:i=9
    .refine Ih ?_;intros;exact KX.a8 aw (fF x r) ⟨by rw[e];rfl,by rw[e]⟩
    .refine Ih ?_;intros;exact KX.a8 aw (fF x r) ⟨by rw[e];rfl,by rw[e]⟩
  have hp:=lY hi;obtain⟨yN,a7⟩:∃yN:Nat,y=(yN:Int):=⟨y.toNat,B⟩;subst a7;have hm:=dA yN (show 0<128 by decide)
  have a5:yN % 128*128 ^ i<18446744073709551616:=by
   by_cases h9:i=9
   .subst h9;have U:yN<=1:=B;have h3:yN % 128*128 ^ 9<=1*128 ^ 9:=bK _ B;omega
   .have h3:yN % 128*128 ^ i<=127*128 ^ i:=bK _ B;have b1:(128:Nat) ^ (i+1)<=9223372036854775808:=lY B;have a6:(128:Nat) ^ (i+1)=128 ^ i*128:=Nat.pow_succ ..;omega
  repeat first|refine Δ.sm 7 ?_|refine cR ?_|intro
  refine Δ.c7 (α:=Unit) (λ_=>True) (λ_=>[(0,al b),(3,.int .u64 (acc:Int)),(4,E (i:Int)),(5,.int .u8 (yN:Int))]) (λ_=>J5 b t 0::L) ?_ ?_
  .by_cases h9:i=9
   .refine Ih ?_;intros;exact⟨(),trivial,aA,fF x r⟩
   .by_cases h0:i=0
    .refine Ih ?_;intros;exact⟨(),trivial,aA,fF x r⟩
    .refine Ih ?_;intros;exact⟨(),trivial,aA,fF x r⟩
  rintro _ _;refine Ih ?_;intros;refine R.ev (O.A6 rfl rfl B B ac ac) ac ?_;rw[aZ,show(127:Int).toNat=127 from rfl,HF yN B];refine Ih ?_;intros;refine R.ev (O.shl rfl rfl B) ac ?_
  have e1:IntKind.u64.wrap (((yN % 128:Nat):Int)*2 ^ min (7*(i:Int)).toNat IntKind.u64.bits)=((yN % 128*2 ^ (7*i) % 18446744073709551616:Nat):Int):=by
   rw[IntKind.wrap_u64,show min (7*(i:Int)).toNat IntKind.u64.bits=7*i by simp[IntKind.bits];omega];simp
  have b0:=dA (yN % 128*2 ^ (7*i)) (show 0<18446744073709551616 by decide);rw[e1];refine R.ev (O.x9 rfl rfl B B B B) ac ?_;rw[aZ,aZ,EN ha a5];by_cases a4:yN<128
  .refine Ih ?_;intros
   have e:gS ic 0=(acc+yN % 128*128 ^ i,t,0):=by
    rw[gS,Ω bR,<-hrd];simp only[LD];rw[Ω I,μ B,aZ]
   exact KX.a8 aw (A.refl _) ⟨by rw[e];rfl,by rw[e]⟩
  .refine Ih ?_;intros
   have h9:i≠9:=by
    intro h9;exact I (.inl ⟨h9,B⟩)
   have a6:(128:Nat) ^ (i+1)=128 ^ i*128:=Nat.pow_succ ..;have h3:yN % 128*128 ^ i<=127*128 ^ i:=bK _ B;refine⟨(i+1,acc+yN % 128*128 ^ i,t),⟨by simp only[];omega,by simp only[];omega,ht,λ_=>?_,λh=>iW rfl h⟩,by simp only[];omega,?_,A.refl _⟩
   .simp only[];rw[<-hrd];simp only[LD];rw[Ω I,Ω B,aZ]
   .simp only[];rw[show(((i+1:Nat)):Int)=(i:Int)+1 by omega];exact aA
theorem EG{ic:List Int}(r:Int)(h:gM ic):(gS ic r).1<18446744073709551616:=by
 grind [gS,CG]
theorem yM(a:Nat)(ha:a<9223372036854775808):bits .xor .i64 (a:Int) (-1) = -1 - (a:Int):=by
 grind [bits,i64_not]
theorem wc(a:Nat)(ha:a<9223372036854775808):bits .xor .i64 (a:Int) 0=(a:Int):=by
 show IntKind.i64.wrap ((BitVec.ofInt 64 (a:Int) ^^^ BitVec.ofInt 64 0).toNat:Int)=_;grind [IntKind.wrap_i64]
theorem tJ(u:Nat)(hu:u<18446744073709551616) :
  Λ Ε 280 #[.int .u64 u] [] (λv L=>v=E (PC u)/\L=[]):=by
 refine Λ.bd (args:=[.int .u64 (u:Int)]) ?_;refine Ih ?_;intros;refine R.ev (O.shr rfl rfl ac) ac ?_
 have e2:((u:Nat):Int).fdiv (2 ^ min ((1:Int).toNat) IntKind.u64.bits)=((u / 2:Nat):Int):=by
  rw[dh _ ac];simp[IntKind.bits]
 rw[e2];refine Ih ?_;intros;refine R.ev (O.x6 rfl rfl B B ac ac) ac ?_;rw[aZ,show(1:Int).toNat=1 from rfl,Nat.and_one_is_mod];refine Ih ?_;intros;by_cases h:u % 2=1
 .rw[h];refine R.ev (O.bits bR rfl rfl) ac ?_;rw[show(-((1:Nat):Int)) = -1 from rfl,yM (u / 2) B];refine Ih ?_;intros;exact KX.a8 aw (A.refl _) (by grind [KD,PC])
 .rw[show u % 2=0 by omega];refine R.ev (O.bits bR rfl rfl) ac ?_;rw[show(-((0:Nat):Int))=0 from rfl,wc (u / 2) B];refine Ih ?_;intros;exact KX.a8 aw (A.refl _) (by grind [KD,PC])
def CH{L:LH}(b:Nat)(ic:List Int)(r:Int)(hb:gM ic) :
  Λ Ε 198 #[al b] (J5 b ic r::L) (C9 (E (PC (gS ic r).1)) (J5 b (gS ic r).2.1 (gS ic r).2.2::L)):=by
 refine Λ.bd ?_;refine Ih ?_;intros;refine R.ef (Ef.k6 (rm b ic r hb) rfl) ac ?_;rintro _ _⟨rfl,rfl⟩;(first|refine R.ef (Ef.call (tJ _ (EG r hb)) rfl eY) ac ?_);rintro _ _⟨_,⟨rfl,rfl⟩,hL⟩;simp only[aj,ak] at hL;subst hL;refine Ih ?_;intros;exact KX.en ⟨rfl,rfl⟩
def CI{L:LH}(b:Nat)(ic:List Int)(I:Int) :
  Λ Ε 201 #[al b] (J5 b ic I::L) (C9 (E (if I≠0 then I else if ic=[] then 0 else 2)) (J5 b ic I::L)):=by
 refine Λ.bd ?_;refine Δ.c8 (f:=λx=>NV b ic I x []) ?_;intro x;simp only[aj,ak];refine Δ.d7 ?_;intro r;by_cases he:I=0
 case neg =>
  refine Ih ?_;intros;exact KX.a8 aw (fF x r) ⟨by simp[he,KD],rfl⟩
 cases ic with
 | nil =>
  refine Ih ?_;intros;exact KX.a8 aw (fF x r) ⟨by simp[he,KD],rfl⟩
 | cons y t =>
  have a2:(y::t).length=t.length+1:=rfl;refine Ih ?_;intros;exact KX.a8 aw (fF x r) ⟨by simp[he,KD],rfl⟩
theorem uS{n:Nat}(h:n<18446744073709551616)(t:List Int):gS (uv n++t) 0=(n,t,0):=by
 grind [gS,Gk]
theorem jO{L:LH}(b:Nat)(n:Int)(t:List Int)(h0:id n)(hb:gM t) :
  Λ Ε 198 #[al b] (J5 b (uv (zz n)++t) 0::L) (C9 (E n) (J5 b t 0::L)):=by
 have h:=CH (L:=L) b (uv (zz n)++t) 0 (by grind [kc]);rw[uS (jI h0.1 h0.2)] at h;rw[FV] at h;exact h
def xD{L:LH}(b:Nat)(q:Bool)(t:List Int) :
  Λ Ε 199 #[al b] (J5 b ((if q=true then 1 else 0)::t) 0::L) (C9 (.bool q) (J5 b t 0::L)):=by
 refine Λ.bd ?_;refine Ih ?_;intros;refine R.cr (rq b ((if q=true then 1 else 0)::t) 0) ?_;rw[show Lo ((if q=true then 1 else 0)::t) 0=((if q=true then 1 else 0),t,0) by simp[Lo]];cases q with
 | true =>
  refine Ih ?_;intros;exact KX.a8 aw (A.refl _) ⟨by rw[bI bR];rfl,rfl⟩
 | false =>
  refine Ih ?_;intros;exact KX.a8 aw (A.refl _) ⟨by rw[bj bR];rfl,rfl⟩
