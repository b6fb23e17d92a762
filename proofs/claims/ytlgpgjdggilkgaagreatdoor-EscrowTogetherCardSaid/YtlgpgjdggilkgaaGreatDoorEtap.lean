/- Lemmas. -/
import Derived.Test.YtlgpgjdggilkgaaGreatDoorEtao
set_option linter.all false
set_option maxHeartbeats 1000000
namespace Go.V
def F.n7{L R:Η}{α:Type}{Ε:α->τ}{sz b ac:Nat}{cs:τ}[h:PO L b ac cs R](I:List α)(hc:cs=I.flatMap Ε)(hs:∀x∈I,(Ε x).length=sz)(hm:I.length<=9223372036854775807):F L (ξ Ε sz (some ⟨b,0,none⟩) I::R) :=
 (F.perm h.perm).trans ((F.d9 hc rfl hs hm).trans F.N9)
end Go.V
namespace Go.Proofs.YtlgpgjdggilkgaaGreatDoor
section
open Go.V
attribute [local irreducible] Α GO GP δ ms Ev Ef C0 F CB GB V.Enters
def xL(bv:Nat)(ad:OA)(c:Nat)(l:ο)(cs:Nat->Int)(hm:l.length<=1000000) :
  uW 313 [av bv] l.length cs (λ_=>cx [obj bv 22 [ah ad l.length c],ξ (dJ .i64) 1 ad ((List.range l.length).map cs)]):=by
 intro k hk L;have B:(k:Int).toNat=k:=D;have U:((List.range l.length).map cs).length=l.length:=by simp
 refine Τ.bd (args:=[J (k:Int),av bv]) ?_;refine Α.cL F.Tl ?_;simp only[au,ax];refine Nd ?_;intros;rw[B,qh hk];exact KX.a8 aF (F.f7 (Ο:=[_,_]) (L:=L)) ⟨rfl,rfl⟩
def da{φ ψ:Prop}(k:ψ)(h:Hid ψ->φ:=by intro k;first|refine GO.ci (f:=311) (Hid.out k)|refine δ.ci (f:=311) (Hid.out k)|refine GO.cf (f:=311) rfl (Hid.out k)|refine δ.cf (f:=311) rfl (Hid.out k)|refine KX.Sz (Hid.out k)):φ:=h ⟨k⟩
def YW{φ ψ:Prop}(k:ψ)(h:Hid ψ->φ:=by intro k;(repeat (first|refine ab ?_|intro B6|refine da ?_));(repeat revert B6);exact Hid.out k):φ:=h ⟨k⟩
theorem Dr{L:Η}(ad:OA)(c:Nat)(I:ο)(hb:I.length<=4096)(O:∀l∈I,a0 l) :
  Τ Θ 300 #[ah ad I.length c,J 0,.bool true] (ξ aL 3 ad I::L) (λv Γ =>
   (aY I<0/\v=.tuple #[ah none 0 0,ah none 0 0,J 10]/\Γ = ξ aL 3 ad I::L) \/
   (0<=aY I/\∃B c1 M c2,v=.tuple #[ah B (P3 I (P4 I 0) I.length).length c1,ah M (PS I (P4 I 0) I.length).length c2,J 0]/\Γ = Ω aL 3 I7 B c1 (P3 I (P4 I 0) I.length)::Ω aL 3 I7 M c2 (PS I (P4 I 0) I.length)::ξ aL 3 ad I::L)):=by
 have hw:∀x∈I,J9 x:=λx h=>(O x h).w;have a2:=lD O I.length D;rw[nu] at a2;refine Τ.bd ?_;refine YW ?_;intros;refine GO.cr (kq ad I.length c I rfl hb O) ?_;refine YW ?_;intros;refine GO.cr (lL ad I.length c I rfl hb O) ?_;refine YW ?_;intros;rename_i bl bn;refine GO.cL (Γ:=cx (TO bn bl ad c I 0 0)::ξ aL 3 ad I::ξ aL 3 ad I::L) ?_ ?_
 .refine F.trans ?_ F.f7;simp only[TO,Rg,au,ax];refine(F.at (Ο:=ξ aL 3 ad I) (F.dup (lF _ _ _ _))).trans ?_;refine(F.dup (lF _ _ _ _)).trans ?_;exact ak
 (first|refine GO.ef (Ef.call (oE _ _ ad c I (P4 I 0) (λk=>cx (TO bn bl ad c I 0 k)) D hw (qW D hw) (wH bn bl ad c I 0 D D ae hw)) rfl fQ) ae ?_);rintro _ _⟨_,⟨B,c1,M,c2,rfl,rfl⟩,hL⟩;simp only[au,ax] at hL;subst hL;refine YW ?_;intros;exact KX.a8 aF (F.refl _) (.inr ⟨D,B,c1,M,c2,rfl,rfl⟩)
theorem Ds{L:Η}(ad:OA)(c:Nat)(I:ο)(n:Int)(hb:I.length<=4096)(O:∀l∈I,a0 l)(a9:0<n)(a5:n<=1099511627776) :
  Τ Θ 300 #[ah ad I.length c,J n,.bool true] (ξ aL 3 ad I::L) (λv Γ =>
   (aY I<n/\v=.tuple #[ah none 0 0,ah none 0 0,J 10]/\Γ = ξ aL 3 ad I::L) \/
   (n<=aY I/\∃M c1 a2 c2,v=.tuple #[ah M (P3 I (Qe I n) I.length).length c1,ah a2 (PS I (Qe I n) I.length).length c2,J 0]/\Γ = Ω aL 3 I7 M c1 (P3 I (Qe I n) I.length)::Ω aL 3 I7 a2 c2 (PS I (Qe I n) I.length)::ξ aL 3 ad I::L)):=by
 have hw:∀x∈I,J9 x:=λx h=>(O x h).w;refine Τ.bd ?_;refine YW ?_;intros;refine GO.cr (kq ad I.length c I rfl hb O) ?_;refine YW ?_;intros;refine GO.cr (lL ad I.length c I rfl hb O) ?_;by_cases hs:aY I<n
 .refine YW ?_;intros;exact KX.a8 aF (F.refl _) (.inl ⟨hs,rfl,rfl⟩)
 have a6:I≠[]:=by
  rintro rfl;simp[aY] at hs;omega
 refine YW ?_;intros;rename_i bl bn;refine GO.cL F.drop (GO.cL F.drop ?_);refine GO.ef (Ef.makeSlice (dJ .i64) 0 rfl rfl rfl D D D) ae ?_;rintro _ _⟨bw,rfl,rfl⟩;rw[bD,<-mK I.length (λk=>I[k]!.2.2)];repeat first|refine Α.sm 8 ?_|refine dA ?_|intro _|refine GO.ci (f:=311) ?_|refine δ.ci (f:=311) ?_|refine GO.cf (f:=311) rfl ?_|refine δ.cf (f:=311) rfl ?_|refine KX.Sz ?_
 refine Α.c7 (α:=Unit) (λ_=>True) (λ_=>[(0,ah ad I.length c),(1,J n),(10,ah (some ⟨bw,0,none⟩) I.length I.length)]) (λ_=>ξ (dJ .i64) 1 (some ⟨bw,0,none⟩) (TQ I)::ξ aL 3 ad I::L) ?_ ?_
 .refine YW ?_;intros
  refine Α.loop (α:=Nat) (λi=>i<=I.length) (λi=>[(0,ah ad I.length c),(1,J n),(10,ah (some ⟨bw,0,none⟩) I.length I.length),(43,ah ad I.length c),(44,J I.length),(45,J (i:Int))])
   (λi=>Ω (dJ .i64) 1 B7 (some ⟨bw,0,none⟩) I.length (iv I.length i (λk=>I[k]!.2.2))::ξ aL 3 ad I::L) (λi=>I.length - i) 0 D aD ak ?_
  intro i hi;have a7:=od I.length i (λk=>I[k]!.2.2);by_cases a4:i<I.length
  case neg =>
   have hin:i=I.length:=D;subst hin
   have e:iv I.length I.length (λk=>I[k]!.2.2)=TQ I:=by
    rw[oe];apply eX
    .simp[TQ]
    .grind [TQ]
   rw[e];refine YW ?_;intros;exact⟨(),trivial,aD,(F.Sf (some ⟨bw,0,none⟩))⟩
  have a3:(i:Int).toNat=i:=D;have h3:(iv I.length i (λk=>I[k]!.2.2)).set i I[i]!.2.2=iv I.length (i+1) (λk=>I[k]!.2.2):=oc _ a4;refine YW ?_;intros;rw[a3,h3];refine⟨i+1,D,D,?_,by exact ak⟩;rw[bC i];exact aD
 rintro _ _;refine YW ?_;intros;refine GO.ca (Dy (some ⟨bw,0,none⟩) I.length I n hb O a6 D D a5) ?_;rintro _ _⟨B,c3,rfl,rfl⟩;refine YW ?_;intros;rename_i bv;refine GO.cL (Γ:=cx [obj bv 22 [ah B I.length c3],ξ (dJ .i64) 1 B ((List.range I.length).map (Qe I n))]::ξ aL 3 ad I::ξ aL 3 ad I::L) ?_ ?_
 .refine(F.Sf B).trans ?_;refine F.trans ?_ F.f7;simp only[au,ax];refine(F.at (Ο:=ξ aL 3 ad I) (F.dup (lF _ _ _ _))).trans ?_;exact ak
 (first|refine GO.ef (Ef.call (oE _ _ ad c I (Qe I n) (λ_=>cx [obj bv 22 [ah B I.length c3],ξ (dJ .i64) 1 B ((List.range I.length).map (Qe I n))]) D hw (FL O D D) (xL bv B c3 I (Qe I n) D)) rfl fQ) ae ?_);rintro _ _⟨_,⟨M,c1,a2,c2,rfl,rfl⟩,hL⟩;simp only[au,ax] at hL;subst hL;refine YW ?_;intros;exact KX.a8 aF (F.refl _) (.inr ⟨D,M,c1,a2,c2,rfl,rfl⟩)
theorem tW(mixed:Bool):Ug mixed:=by
 cases mixed with
 | false=>exact AE
 | true =>
  refine⟨λl n U h0 K k hk=>xK true l n U h0 K k hk,?_⟩;intro L ad c I n K T h3 h4;rcases Int.lt_or_eq_of_le h3 with h5|h5
  .have e:Rv true I n=Qe I n:=Χ ⟨rfl,h5⟩;grind [nj,jH,Ds]
  .subst h5;have e:Rv true I 0=P4 I 0:=Ν (λh=>hD h.2 D);grind [nj,jH,Dr]
structure Wz where
 acc:Int
 a1:Int
 ν:h1
 deriving Inhabited
abbrev Wz.is(s:Wz)(a i:Int):Prop:=s.acc=a/\s.a1=i
theorem vu{l:ο}(h:∀x∈l,a0 x):0<=aY l:=by
 have:=(lD h l.length D).1
 grind
structure RLX where
 π:L1
 ada:List Wz
 K0:OA
 Qq:Nat
 Κ:List Pv
 C3:OA
 F1:Nat
 D9:List M0
 Sg:OA
 Sh:Nat
def ki(ps:ο)(n:Int):Prop:=ip ps/\aY ps=n/\aY (Ou ps)=n
instance (ps:ο)(n:Int):Decidable (ki ps n):=by unfold ki;infer_instance
def rP(k:Nat)(m:A8):Prop:=(0<=m.a1/\m.a1<k)/\(1<=m.n/\m.n<=1099511627776)/\m.Λ≠m.to/\(0<=m.Λ/\0<=m.to/\m.Λ<=1073741824/\m.to<=1073741824)
def EI(k:Nat)(st:Bool)(m:A8):Prop:=rP k m/\(if st=true then ki m.Β m.n else m.Β.length=0)
def gU(k:Int):Bool:=dB (k=5\/k=7\/k=9)
def iw(k:Int)(m:A8):Prop:=if k=0\/k=5 then m.Λ=0 else if k=1\/k=6 then m.to=0 else if k=7 then 0<m.Λ else if k=9 then 0<m.to else 0<m.Λ/\0<m.to
instance (k:Int)(m:A8):Decidable (iw k m):=by unfold iw;infer_instance
def JU(s:D6):Prop:=s.K9 = -1/\(1<=s.OI/\s.OI<=1048576)/\s.fe.length=2/\s.fe[0]!.to=0/\s.fe[1]!.Λ=0/\s.fe[1]!.to=s.fe[0]!.Λ/\s.fe[0]!.n % s.OI=0/\s.fe[1]!.n % s.OI=0
def ng(rules:List UN)(s:D6):Prop:=if s.Δ=4 then HC rules s.K9 s.OI s.fe else if s.Δ=10 then JU s else(∀m∈s.fe,iw s.Δ m)/\s.K9 = -1/\s.OI=0
def gC(c:B0)(now:Int)(s:D6):Prop :=
 (0<=s.Δ/\s.Δ<=10)/\Qd s.RV/\(now<=s.E/\s.E<=1099511627776)/\(1<=s.fe.length/\s.fe.length<=64)/\(∀m∈s.fe,EI c.B5.length (gU s.Δ) m)/\ng c.rules s
noncomputable instance (a b c):Decidable (gC a b c):=Classical.propDecidable _
def Kp{s:M0}{i:Nat}(h:i<s.fe.length){L:Η}:F (Nu s::L) (ξ aL 3 s.fe[i]!.pad s.fe[i]!.m.Β::Nu s::L):=F.d8 (f:=Ns) (bA h)
theorem EK{l:ο}{f n:Int}(h:∀x∈l,a0 x)(hn:1<=n):bH l (f,0,n)=l++[(f,0,n)]:=by
 grind [bH,TL,bA,a0]
def rO(fl:List E3)(p:h2):Prop:=∃f∈fl,f.Δ=5/\pK f.Β [p]≠[]
instance (fl:List E3)(p:h2):Decidable (rO fl p):=by unfold rO;infer_instance
def WA(d:Int)(fl:List E3)(p:h2):Int:=if p.1 / 4294967296=d\/11<p.1 / 4294967296 then 1 else if rO fl p then 8 else 0
def Uj(d:Int)(fl:List E3):ο->Int
 | []=>0
 | p::ps=>if WA d fl p=0 then Uj d fl ps else WA d fl p
def Fp(fl:List E3)(a1:Int)(p:h2):Prop:=(¬ ∃f∈fl,f.Δ=9/\f.Λ=0/\pK f.Β [p]≠[])/\∃f∈fl,f.Δ≠6/\f.to=0/\f.a1=a1/\kE [p] [(f.A,0,f.n)]
instance (fl:List E3)(a1:Int)(p:h2):Decidable (Fp fl a1 p):=by unfold Fp;infer_instance
def Zs(fl:List E3)(a1:Int)(ps:ο):Int:=if ∀p∈ps,Fp fl a1 p then 0 else 10
end
section
open Go.V
theorem gB(x:h2)(l:ο):aY (x::l)=x.2.2+aY l:=by
 have:=gE [x] l
 rw[fZ] at this;exact this
theorem jR:aY ([]:ο)=0:=rfl
def ov(x y:h2):Int:=if x.1=y.1 then max 0 (min (x.2.1+x.2.2) (y.2.1+y.2.2) - max x.2.1 y.2.1) else 0
theorem rD(x y:h2):ov x y=ov y x:=by
 grind [ov]
def JP(x y:h2):0<=ov x y:=by
 unfold ov;omega
theorem rC{x y:h2}(O:a0 x)(Y:a0 y):ov x y=0↔apart x y:=by
 grind [a0,ov,apart]
def OV:ο->h2->Int
 | [],_=>0
 | x::l,y=>ov x y+OV l y
theorem xv:∀(l:ο) (y:h2),0<=OV l y
 | [],_=>bE _
 | x::l,y=>by
  have:=xv l y
  grind [ov,OV]
def ge:∀(a b:ο) (y:h2),OV (a++b) y=OV a y+OV b y
 | [],b,y=>by show OV b y=0+OV b y;omega
 | x::a,b,y=>by
  have:=ge a b y
  show ov x y+OV (a++b) y=ov x y+OV a y+OV b y;omega
def je(x y:h2):OV [x] y=ov x y:=by show ov x y+0=ov x y;omega
def vN:∀{l:ο} {y:h2},OV l y=0->∀x∈l,ov x y=0
 | x::l,y,h,z,hz=>by
  have K:=xv l y;have T:=JP x y;have h3:ov x y+OV l y=0:=h;rcases Nj hz with rfl|hz
  .omega
  .exact vN D z hz
def OO(l:ο):ο->Int
 | []=>0
 | x::s=>OV l x+OO l s
theorem vO(y:h2)(l:ο):∀s,OO (y::l) s=OO [y] s+OO l s
 | []=>rfl
 | x::s=>by
  have:=vO y l s
  have e:=je y x;show(ov y x+OV l x)+OO (y::l) s=(OV [y] x+OO [y] s)+(OV l x+OO l s);omega
theorem Az:∀s,OO [] s=0
 | []=>rfl
 | x::s=>by
  have:=Az s
  show 0+OO [] s=0;omega
def HS(y:h2):∀s,OO [y] s=OV s y
 | []=>rfl
 | x::s=>by
  have:=HS y s
  have e:=je y x;have c:=rD x y;show OV [y] x+OO [y] s=ov x y+OV s y;omega
theorem Dh:∀l s,OO l s=OO s l
 | [],s=>Az s
 | y::l,s=>by
  rw[vO,HS,Dh l s];rfl
theorem Ig{x y:h2}(O:a0 x)(Y:a0 y):aY (QH x y)=y.2.2 - ov y x:=by
 unfold a0 at O Y;unfold QH ov;by_cases hc:y.1≠x.1\/x.2.1+x.2.2<=y.2.1\/y.2.1+y.2.2<=x.2.1
 .grind [fZ]
 .have hf:y.1=x.1:=D;rw[Ν hc,Χ hf,gE];grind [fZ,jR]
theorem Ko{x y t:h2}(O:a0 x)(Y:a0 y)(ht:a0 t)(h:apart x t):OV (QH x y) t=ov y t:=by
 unfold a0 at O Y ht;unfold apart at h;unfold QH;split
 .exact je y t
 .rename_i hn;rw[ge];grind [OV,ov]
theorem sH{x:h2}(O:a0 x):∀{l:ο},(∀y∈l,a0 y)->aY (Np l x)=aY l - OV l x
 | [],_=>rfl
 | y::l,h=>by
  have e:Np (y::l) x=QH x y++Np l x:=aT;have ih:=sH O (l:=l) aj;have K:=Ig O (h y aA);rw[e,gE,gB,ih,K];show _=y.2.2+aY l - (ov y x+OV l x);omega
theorem Co{x t:h2}(O:a0 x)(ht:a0 t)(ha:apart x t):∀{l:ο},(∀y∈l,a0 y)->OV (Np l x) t=OV l t
 | [],_=>rfl
 | y::l,h=>by
  have e:Np (y::l) x=QH x y++Np l x:=aT;have ih:=Co O ht ha (l:=l) aj;rw[e,ge,ih,Ko O aj ht ha];rfl
theorem CZ:∀{set l:ο},(∀x∈set,a0 x)->(∀y∈l,a0 y)->L7 set->aY (set.foldl Np l)=aY l - OO l set
 | [],l,_,_,_=>by show aY l=aY l - 0;omega
 | x::set,l,hs,U,ha=>by
  obtain⟨M,a2⟩:=List.pairwise_cons.1 ha;have O:=hs x aj;have B:∀z∈set,a0 z:=aj;have ih:=CZ (set:=set) (l:=Np l x) B (vc O U) a2
  have a3:∀{s:ο},(∀z∈s,a0 z)->(∀z∈s,apart x z)->OO (Np l x) s=OO l s:=λ {s}=>by
   induction s with
   | nil=>intro _ _;rfl
   | cons z s ih2 =>
    grind [Co,OO]
  have h3:=sH O U;have h4:=a3 B M;show aY (set.foldl Np (Np l x))=aY l - (OV l x+OO l set);omega
theorem wq:∀(r out:ο),aY (r.foldl bH out)=aY out+aY r
 | [],out=>by show aY out=aY out+0;omega
 | x::r,out=>by
  have:=wq r (bH out x)
  rw[pL] at this;rw[gB];show aY (r.foldl bH (bH out x))=_;omega
theorem xE{set:ο}(hs:∀x∈set,a0 x)(ha:L7 set):∀{s out:ο},(∀y∈s,a0 y)->aY (s.foldl (λout y=>(jm set y).foldl bH out) out)=aY out+aY s - OO s set
 | [],out,_=>by grind [Az,aY]
 | y::s,out,h=>by
  have Y:=h y aj;have ih:=xE hs ha (s:=s) (out:=(jm set y).foldl bH out) aj;have K:aY (jm set y)=aY [y] - OO [y] set:=CZ hs (λz hz=>by rw[F6 hz];exact Y) ha;grind [fZ,wq,gB,vO]
theorem qp{s set:ο}(h:∀y∈s,a0 y)(hs:∀x∈set,a0 x)(ha:L7 set):aY (jh s set)=aY s - OO s set:=by
 have:=xE hs ha (s:=s) (out:=[]) h
 rw[jR] at this;unfold jh;omega
def sl(x y:h2):Prop:=x.1<y.1\/(x.1=y.1/\x.2.1+x.2.2<y.2.1)
structure VV (l:h2) (z:ο×ο×Int×Int) (r:ο):Prop where
 lo:0<=z.2.2.1/\z.2.2.1<=l.2.1
 hi:l.2.1+l.2.2<=z.2.2.2
 hiC:z.2.2.2=l.2.1+l.2.2\/∀x∈r,x.1=l.1->z.2.2.2<x.2.1
 loC:z.2.2.1=l.2.1\/∀x∈r,x.1=l.1->l.2.1<x.2.1
 s1:(z.1++r).Pairwise sl
 s2:(z.2.1++r).Pairwise sl
 s3:∀y∈z.1,y.1<l.1\/(y.1=l.1/\y.2.1+y.2.2<z.2.2.1)
 s4:∀y∈z.2.1,(l.1<y.1\/(y.1=l.1/\z.2.2.2<y.2.1))/\1<=y.2.2
def RW(z:ο×ο×Int×Int):Int:=aY z.1+aY z.2.1+(z.2.2.2 - z.2.2.1)
def Rx(f:Int)(z:ο×ο×Int×Int)(t:h2):Int:=OV z.1 t+OV z.2.1 t+ov (f,z.2.2.1,z.2.2.2 - z.2.2.1) t
theorem IL{l:h2}{z:ο×ο×Int×Int}{x:h2}{r:ο}(U:a0 l)(O:a0 x)(h:VV l z (x::r)):VV l (QG l.1 z x) r/\RW (QG l.1 z x)=RW z+x.2.2 - ov x l/\(ov x l=0->∀t,a0 t->Rx l.1 (QG l.1 z x) t=Rx l.1 z t+ov x t):=by
 obtain⟨⟨b0,b1⟩,b2,b3,b4,s1,s2,s3,s4⟩:=h;have a9:x∈x::r:=aj;have hr:∀{y},y∈r->y∈x::r:=aj;have b5:∀y∈r,sl x y:=by grind [List.pairwise_cons]
 have a4:∀y∈z.1,sl y x:=aj;have a5:∀y∈z.2.1,sl y x:=aj;have a2:=U;have a3:=O;unfold a0 at a2 a3;have B:(z.1++r).Pairwise sl:=aj;have M:(z.2.1++r).Pairwise sl:=aj;unfold QG;by_cases c1:x.1<l.1\/(x.1=l.1/\x.2.1+x.2.2<z.2.2.1)
 .rw[Χ c1];have e0:ov x l=0:=by unfold ov;split<;>omega
  refine⟨⟨⟨b0,b1⟩,b2,aj,aj,?_,M,?_,s4⟩,?_,λ_ t _=>?_⟩
  .grind
  .grind
  .grind [RW,gE,fZ]
  .unfold Rx;dsimp only;rw[ge,je];omega
 rw[Ν c1];by_cases c2:l.1<x.1\/z.2.2.2<x.2.1
 .rw[Χ c2];have e0:ov x l=0:=by unfold ov;split<;>omega
  refine⟨⟨⟨b0,b1⟩,b2,aj,aj,B,?_,s3,?_⟩,?_,λ_ t _=>?_⟩
  .grind
  .grind
  .grind [RW,gE,fZ]
  .unfold Rx;dsimp only;rw[ge,je];omega
 rw[Ν c2];have hf:x.1=l.1:=D
 have a6:z.2.2.2=l.2.1+l.2.2:=by
  rcases b3 with q|q
  .exact q
  .grind
 have a7:z.2.2.1=l.2.1\/l.2.1<x.2.1:=aj;refine⟨⟨aj,aj,?_,?_,B,M,?_,?_⟩,?_,λe0 t ht=>?_⟩
 .grind [sl]
 .grind [sl]
 .grind [sl]
 .grind [sl]
 .unfold RW ov;rw[Χ hf];dsimp only;omega
 .unfold ov at e0;rw[Χ hf] at e0;unfold Rx;dsimp only
  have key:ov (l.1,min z.2.2.1 x.2.1,max z.2.2.2 (x.2.1+x.2.2) - min z.2.2.1 x.2.1) t=ov (l.1,z.2.2.1,z.2.2.2 - z.2.2.1) t+ov x t:=by
   unfold a0 at ht;unfold ov;dsimp only;by_cases g:l.1=t.1
   .rw[Χ g,Χ g,Χ (hf.trans g)];omega
   .grind
  omega
def vt{l:h2}(U:a0 l):∀{r:ο} {z:ο×ο×Int×Int},(∀x∈r,a0 x)->VV l z r->VV l (r.foldl (QG l.1) z) []/\RW (r.foldl (QG l.1) z)=RW z+aY r - OV r l/\(OV r l=0->∀t,a0 t->Rx l.1 (r.foldl (QG l.1) z) t=Rx l.1 z t+OV r t)
 | [],z,_,h=>⟨h,by show RW z=RW z+0 - 0;omega,λ_ t _=>by show Rx l.1 z t=Rx l.1 z t+0;omega⟩
 | x::r,z,hr,h=>by
  obtain⟨K,T,h3⟩:=IL U (hr x aA) h;obtain⟨i1,i2,i3⟩:=vt U (r:=r) (z:=QG l.1 z x) (λy Y=>hr y (az _ Y)) K;have e:OV (x::r) l=ov x l+OV r l:=rfl;have n1:=JP x l;have n2:=xv r l;refine⟨i1,?_,λq t ht=>?_⟩
  .show RW (r.foldl (QG l.1) (QG l.1 z x))=_;rw[gB];omega
  .have g1:=h3 D t ht;have g2:=i3 D t ht;show Rx l.1 (r.foldl (QG l.1) (QG l.1 z x)) t=Rx l.1 z t+(ov x t+OV r t);omega
theorem IY{l:h2}{s:ο}(U:a0 l)(hs:∀x∈s,a0 x)(hp:s.Pairwise sl):(Sj s l).Pairwise sl/\aY (Sj s l)=aY s+l.2.2 - OV s l/\(OV s l=0->∀t,a0 t->OV (Sj s l) t=OV s t+ov l t):=by
 have B:=U;unfold a0 at B;obtain⟨⟨_,_,_,_,_,_,s3,s4⟩,T,h3⟩:=vt U (r:=s) (z:=([],[],l.2.1,l.2.1+l.2.2)) hs ⟨aj,bE _,.inl rfl,.inl rfl,hp,hp,aj,aj⟩;have hm:=vt U (r:=s) (z:=([],[],l.2.1,l.2.1+l.2.2)) hs ⟨aj,bE _,.inl rfl,.inl rfl,hp,hp,aj,aj⟩;have p1:=hm.1.s1;have p2:=hm.1.s2;have q1:=hm.1.lo;have q2:=hm.1.hi;rw[aI] at p1 p2;have e:s.foldl (QG l.1) ([],[],l.2.1,l.2.1+l.2.2)=Qs s l:=rfl;rw[e] at s3 s4 T h3 p1 p2 q1 q2;clear hm;have z0:RW ([],[],l.2.1,l.2.1+l.2.2)=l.2.2:=by unfold RW;dsimp only;rw[jR];omega
 unfold Sj;generalize Qs s l=z at *;refine⟨?_,?_,λq t ht=>?_⟩
 .grind [sl]
 .rw[gE,gE,fZ];grind [RW]
 .have g:=h3 q t ht
  have e0:Rx l.1 ([],[],l.2.1,l.2.1+l.2.2) t=ov l t:=by
   unfold Rx;dsimp only;have:l.2.1+l.2.2 - l.2.1=l.2.2:=D;rw[this];show 0+0+ov (l.1,l.2.1,l.2.2) t=ov l t;rw[show(l.1,l.2.1,l.2.2)=l from rfl];omega
  rw[e0] at g;unfold Rx at g;rw[ge,ge,je];omega
theorem nk{ps:ο}(h:∀x∈ps,a0 x):∀i,i<=ps.length->(Ou (ps.take i)).Pairwise sl/\aY (Ou (ps.take i))<=aY (ps.take i)/\(aY (Ou (ps.take i))=aY (ps.take i)->L7 (ps.take i)/\∀t,a0 t->OV (Ou (ps.take i)) t=OV (ps.take i) t)/\(L7 (ps.take i)->aY (Ou (ps.take i))=aY (ps.take i))
 | 0,_=>⟨List.Pairwise.nil,bE _,λ_=>⟨List.Pairwise.nil,λ_ _=>rfl⟩,λ_=>rfl⟩
 | i+1,hi=>by
  obtain⟨K,T,h3,h4⟩:=nk h i D;have B:i<ps.length:=D;have O:=h _ (bA B);have a4:=(qx h i D).2;have e:Ou (ps.take (i+1))=Sj (Ou (ps.take i)) ps[i]!:=ka Sj [] B;have et:ps.take (i+1)=ps.take i++[ps[i]!]:=by rw[aB B,D7 B]
  have a3:aY (ps.take (i+1))=aY (ps.take i)+ps[i]!.2.2:=gA ps B;have a5:∀x∈ps.take i,a0 x:=aj;obtain⟨g1,g2,g3⟩:=IY O a4 K;have nn:=xv (Ou (ps.take i)) ps[i]!;rw[e,a3];refine⟨g1,D,λq=>?_,λq=>?_⟩
  .obtain⟨M,a2⟩:=h3 D;have z:OV (Ou (ps.take i)) ps[i]! = 0:=D;rw[et];refine⟨List.pairwise_append.2 ⟨M,dD _ _,λy Y w hw=>?_⟩,λt ht=>?_⟩
   .rw[F6 hw];rw[a2 _ O] at z;exact(rC (a5 y Y) O).1 (vN z y Y)
   .rw[g3 z t ht,a2 t ht,ge,je]
  .rw[et] at q;obtain⟨q1,_,q3⟩:=List.pairwise_append.1 q;have h5:=h4 q1;have h6:=(h3 h5).2 _ O
   have z:∀{l:ο},(∀y∈l,a0 y)->(∀y∈l,apart y ps[i]!)->OV l ps[i]! = 0:=λ {l}=>by
    induction l with
    | nil=>intro _ _;rfl
    | cons y l ih =>
     grind [rC,OV]
   grind
theorem sK{ps:ο}(h:∀x∈ps,a0 x):aY (Ou ps)=aY ps↔L7 ps:=by
 obtain⟨_,_,h3,h4⟩:=nk h ps.length D;grind
theorem xS{s:ο}(h:s.Pairwise sl):L7 s:=h.imp (by grind [sl,apart])
theorem JW{a b:ο}:∀{s:ο},(∀t∈s,OV a t=OV b t)->OO a s=OO b s
 | [],_=>rfl
 | x::s,h=>by
  have K:=h x aA;have T:=JW (s:=s) (λt ht=>h t (az _ ht));show OV a x+OO a s=OV b x+OO b s;omega
theorem Dj{ps jC:ο}(hw:kE ps jC)(ha:L7 jC)(hd:aY (Ou ps)=aY ps):aY (jh jC ps)=aY jC - aY ps:=by
 obtain⟨⟨K,_⟩,⟨T,_⟩,h3⟩:=hw;have hs:=rt K;have e1:aY (ko ps jC)=aY (Ou ps) - OO (Ou ps) jC:=qp hs.2 T ha;grind [jR,qp,nk,cz,JW,Dh]
theorem qE:∀{r out:ο},∀z∈r.foldl bH out,∃y∈out++r,z.1=y.1
 | [],out,z,hz=>aj
 | x::r,out,z,hz=>by
  obtain⟨y,Y,e⟩:=qE (r:=r) (out:=bH out x) z hz;rcases J8 Y with Y|Y
  .have h:∀w∈bH out x,∃v∈out++x::r,w.1=v.1:=by
    intro w hw;unfold bH at hw;split at hw
    .grind
    .grind
   grind
  grind
def ox:∀(r out:ο),r.foldl bH out=(r.filter (λx=>decide (x.2.2≠0))).foldl bH out
 | [],_=>rfl
 | x::r,out=>by
  by_cases h:x.2.2=0
  .rw[List.filter_cons_of_neg (by simpa using h)];have e:bH out x=out:=Χ h;show r.foldl bH (bH out x)=_;rw[e];exact ox r out
  .rw[dE (by simpa using h)];exact ox r (bH out x)
theorem kY:∀{r out:ο},L7 (out++r)->(∀z∈out++r,1<=z.2.2)->L7 (r.foldl bH out)
 | [],out,h,_=>aj
 | x::r,out,h,hn=>by
  have O:=hn x aj;have a9:out++x::r=(out++[x])++r:=by rw[aH];rfl
  by_cases hc:out.length≠0/\lM x out[out.length - 1]!
  case neg =>
   have e:bH out x=out++[x]:=by unfold bH;rw[Ν D,Ν hc]
   show L7 (r.foldl bH (bH out x));rw[e];rw[a9] at h hn;exact kY h hn
  obtain⟨U,hk⟩:=hc;have e:bH out x=out.set (out.length - 1) (out[out.length - 1]!.1,out[out.length - 1]!.2.1,out[out.length - 1]!.2.2+x.2.2):=by unfold bH;rw[Ν D,Χ ⟨U,hk⟩]
  rcases List.eq_nil_or_concat out with rfl|⟨B,b,rfl⟩
  .grind
  rw[List.concat_eq_append] at *
  have eb:(B++[b])[(B++[b]).length - 1]! = b:=by
   rw[D7 cj];simp
  rw[eb] at e hk
  have es:(B++[b]).set ((B++[b]).length - 1) (b.1,b.2.1,b.2.2+x.2.2)=B++[(b.1,b.2.1,b.2.2+x.2.2)]:=by
   rw[ay,aX,Nat.add_sub_cancel,fw _ _ D];simp
  rw[es] at e;show L7 (r.foldl bH (bH (B++[b]) x));rw[e];have b0:=TL.1 hk;have hb:=hn b aj;have e3:(B++[b])++x::r=B++(b::x::r):=by rw[aH];rfl
  rw[e3] at h hn;obtain⟨M,a2,a3⟩:=List.pairwise_append.1 h;obtain⟨a4,a5⟩:=List.pairwise_cons.1 a2;obtain⟨a6,a7⟩:=List.pairwise_cons.1 a5;refine kY ?_ ?_
  .rw[show(B++[(b.1,b.2.1,b.2.2+x.2.2)])++r=B++((b.1,b.2.1,b.2.2+x.2.2)::r) by grind];refine List.pairwise_append.2 ⟨M,List.pairwise_cons.2 ⟨λz hz=>?_,a7⟩,λz hz w hw=>?_⟩
   .have g1:=a4 z (az _ hz);have g2:=a6 z hz;have g3:=hn z aj;unfold apart at g1 g2 ⊢;grind
   .rcases Nj hw with rfl|hw
    .have g1:=a3 z hz b aj;have g2:=a3 z hz x aj;have g3:=hn z aj;unfold apart at g1 g2 ⊢;dsimp only;omega
    grind
  .intro z hz;grind
def uJ{α β γ:Type}(f:γ->β->γ)(g:α->List β):∀(s:List α) (out:γ),(s.flatMap g).foldl f out=s.foldl (λo y=>(g y).foldl f o) out
 | [],_=>rfl
 | y::s,out=>by
  rw[aT,List.foldl_append];exact uJ f g s _
theorem Ac:∀(set l:ο),set.foldl Np l=l.flatMap (λy=>set.foldl Np [y])
 | [],l=>by
  show l=l.flatMap (λy=>[y]);induction l with
  | nil=>rfl
  | cons y l ih=>grind
 | x::set,l=>by
  have e1:∀l,(x::set).foldl Np l=(Np l x).flatMap (λy=>set.foldl Np [y]):=λl=>Ac set (Np l x);rw[e1];induction l with
  | nil=>rfl
  | cons y l ih =>
   have e2:Np (y::l) x=Np [y] x++Np l x:=by
    unfold Np;rw[aT,aT];simp
   rw[e2,dL,ih,aT];congr 1;exact(e1 [y]).symm
def xG(s set:ο):jh s set=(set.foldl Np s).foldl bH []:=by
 rw[Ac,uJ];rfl
theorem HA:∀{set l:ο},(∀x∈set,a0 x)->(∀y∈l,a0 y)->L7 l->(∀y∈set.foldl Np l,a0 y/\∃w∈l,y.1=w.1)/\L7 (set.foldl Np l)/\(set.foldl Np l).length<=l.length+set.length
 | [],l,_,U,ha=>aj
 | x::set,l,hs,U,ha=>by
  have O:=hs x aA;obtain⟨K,T⟩:=mD O U ha;obtain⟨i1,i2,i3⟩:=HA (set:=set) (l:=Np l x) (λz hz=>hs z (az _ hz)) (vc O U) K;refine⟨λy Y=>?_,i2,?_⟩
  .obtain⟨g1,w,hw,e⟩:=i1 y Y;obtain⟨v,hv,_,e2,_⟩:=rp O U hw;exact⟨g1,v,hv,e.trans e2⟩
  .rw[aK];show(set.foldl Np (Np l x)).length<=_;omega
structure Q3 (k:Nat) (A:Int) (l:ο):Prop where
 len:l.length<=k
 ok:∀x∈l,a0 x/\x.1<A
 Uk:L7 l
def Q3.C8{k:Nat}{A:Int}{l:ο}(h:Q3 k A l):∀x∈l,a0 x:=λx O=>(h.ok x O).1
def Q3.mono{k k' : Nat}{A B : Int}{l:ο}(h:Q3 k A l)(hk:k<=k')(hi:A<=B):Q3 k' B l:=⟨aO h.len hk,λx O=>⟨(h.ok x O).1,by have:=(h.ok x O).2;omega⟩,h.Uk⟩
theorem Cj{k:Nat}{A:Int}{l ps:ο}(h:Q3 k A l)(hp:∀x∈ps,a0 x):Q3 (k+ps.length) A (jh l ps):=by
 obtain⟨c1,c2,c3⟩:=HA hp h.C8 h.Uk;have U:=h.len;rw[xG];refine⟨?_,λx O=>?_,kY c2 (λz hz=>(c1 z hz).1.2.2.2.1)⟩
 .grind [iV]
 .obtain⟨y,Y,e⟩:=qE (r:=ps.foldl Np l) (out:=[]) x O;rw[ax] at Y;obtain⟨_,w,hw,e2⟩:=c1 y Y;have:=(h.ok w hw).2
  refine⟨lG cj (λz hz=>(c1 z hz).1.w) x O,?_⟩;omega
theorem KU{mixed:Bool}{k:Nat}{A n:Int}{l:ο}(h:Q3 k A l)(hk:l.length<=4096)(h0:0<=n)(K:n<=aY l):Q3 k A (jH mixed l n):=by
 have hb:=xK mixed l n h.C8 h0 K;have M:=(Hq h.C8 hb).2;refine⟨aO (oZ _ _ _).2 h.len,λx O=>⟨M x O,?_⟩,?_⟩
 .obtain⟨y,Y,e⟩:=qE (r:=(List.range l.length).map (RU l (Rv mixed l n))) (out:=[]) x O;rw[ax] at Y;obtain⟨j,hj,rfl⟩:=H9 Y;have hj:=List.mem_range.1 hj;have:=(h.ok _ (bA hj)).2
  rw[e];exact this
 .show L7 (((List.range l.length).map (RU l (Rv mixed l n))).foldl bH []);rw[ox]
  have a2:L7 ((List.range l.length).map (RU l (Rv mixed l n))):=by
   unfold L7;rw[List.pairwise_map];refine List.Pairwise.imp_of_mem ?_ List.pairwise_lt_range;intro i j hi hj B;have hi:=List.mem_range.1 hi;have hj:=List.mem_range.1 hj;have ha:=List.pairwise_iff_getElem.1 h.Uk i j hi hj B;rw[<-D7 hi,<-D7 hj] at ha;have b1:=hb i hi;have b2:=hb j hj;unfold apart at ha ⊢;simp only[RU,Wq,VR];omega
  refine kY ?_ ?_
  .rw[ax];exact a2.filter _
  grind [RU,VR]
theorem MN{k:Nat}{A n:Int}{l:ο}(h:Q3 k A l)(B:0<=A)(hn:1<=n/\n<=1099511627776):Q3 (k+1) (A+1) (bH l (A,0,n)):=by
 rw[EK h.C8 hn.1];have U:=h.len;refine⟨by rw[ay,aX];omega,λx O=>?_,List.pairwise_append.2 ⟨h.Uk,dD _ _,λy Y w hw=>?_⟩⟩
 .rcases J8 O with O|O
  .have:=h.ok x O
   grind
  .rw[F6 O];refine⟨⟨B,bE _,aj,hn.1,aj⟩,D⟩
 .rw[F6 hw];have:=(h.ok y Y).2
  unfold apart;omega
def PU(hl:Int->Bool)(s:D6)(W:Wk)(m:A8):ο:=if m.Λ=0 then(if s.Δ=5\/s.Δ=9 then m.Β else[]) else if m.Β=[] then nj (hl m.a1) (W.ν m.Λ m.a1) m.n else m.Β
def xr(hl:Int->Bool)(W:Wk)(m:A8):ο:=if m.Β=[] then jH (hl m.a1) (W.ν m.Λ m.a1) m.n else jh (W.ν m.Λ m.a1) m.Β
def NI(hl:Int->Bool)(W:Wk)(m:A8):Int->Int->ο:=if m.Λ=0 then W.ν else Qf W.ν m.Λ m.a1 (xr hl W m)
def N4(d:Int)(fl:List E3)(s:D6)(W:Wk)(m:A8):Int :=
 if m.Λ=0 then(if s.Δ=5 then Uj d fl m.Β else if s.Δ=9 then Zs fl m.a1 m.Β else 0)
 else if m.Β=[] then(if aY (W.ν m.Λ m.a1)<m.n then 10 else 0) else if kE m.Β (W.ν m.Λ m.a1) then 0 else 10
def gF(d:Int)(nf:Nat)(hl:Int->Bool)(s:D6)(W:Wk)(m:A8):E3:=⟨eZ d nf W,s.A,s.Δ,s.E,s.RV,m.Λ,m.to,m.a1,m.n,PU hl s W m,li s W m⟩
def cg(d:Int)(fl:List E3)(hl:Int->Bool)(s:D6)(W:Wk)(m:A8):Int×Wk :=
 if N4 d (fl++W.Κ) s W m≠0 then(N4 d (fl++W.Κ) s W m,W)
 else if du W m>1099511627776 then(4,W)
 else if m.to=0 then(0,⟨NI hl W m,Pu W.id m.a1 (du W m),W.Κ++[gF d fl.length hl s W m],W.Oi++[eZ d fl.length W]⟩)
 else if 4096<=(NI hl W m m.to m.a1).length then(4,W)
 else(0,⟨Qf (NI hl W m) m.to m.a1 (bH (NI hl W m m.to m.a1) (eZ d fl.length W,0,m.n)),Pu W.id m.a1 (du W m),W.Κ++[gF d fl.length hl s W m],W.Oi⟩)
def WB(fl:List E3):Prop:=∀f∈fl,(∀x∈f.Β,a0 x)/\f.Β.length<=2047
structure Ry (d:Int) (fl:List E3) (k:Nat) (W:Wk):Prop where
 ν:∀a i,Q3 k (eZ d fl.length W) (W.ν a i)
 id:∀i,-(((fl.length:Int)+W.Κ.length)*1099511627776)<=W.id i/\W.id i<=1099511627776
 Oi:W.Oi.length<=W.Κ.length
 Κ:WB W.Κ
structure Qt (m:A8):Prop where
 n:1<=m.n/\m.n<=1099511627776
 ne:m.Λ≠m.to
 Β:m.Β=[]\/ki m.Β m.n
theorem Qt.C8{m:A8}(h:Qt m):∀x∈m.Β,a0 x:=λx O=>by
 rcases h.Β with q|q
 .grind
 .exact q.1.1 x O
theorem uD{d:Int}{fl:List E3}{hl:Int->Bool}{s:D6}{W:Wk}{k:Nat}{m:A8}(h:Ry d fl k W)(hm:Qt m)(hk:k<=2000)(he:N4 d (fl++W.Κ) s W m=0)(a i:Int):Q3 (k+m.Β.length) (eZ d fl.length W) (NI hl W m a i):=by
 unfold NI;unfold N4 at he;by_cases h0:m.Λ=0
 .rw[Χ h0];exact(h.ν a i).mono D D
 rw[Ν h0] at he ⊢;unfold Qf;by_cases ha:a=m.Λ/\i=m.a1
 case neg =>
  rw[Ν ha];exact(h.ν a i).mono D D
 rw[Χ ha];have hs:=h.ν m.Λ m.a1;have U:=hs.len;have hn:=hm.n;unfold xr;by_cases hp:m.Β=[]
 .grind [KU]
 .rw[Ν hp];exact Cj hs hm.C8
theorem Ha{d:Int}{fl:List E3}{hl:Int->Bool}{s:D6}{W:Wk}{k:Nat}{m:A8}(h:Ry d fl k W)(hm:Qt m)(hk:k+m.Β.length<=2000)(he:N4 d (fl++W.Κ) s W m=0):(∀x∈PU hl s W m,a0 x)/\(PU hl s W m).length<=2047:=by
 have hs:=h.ν m.Λ m.a1;have U:=hs.len;have hn:=hm.n;unfold N4 at he;unfold PU;by_cases h0:m.Λ=0
 .rw[Χ h0];split
  .exact⟨hm.C8,D⟩
  grind
 rw[Ν h0] at he ⊢;by_cases hp:m.Β=[]
 .rw[Χ hp] at he ⊢;by_cases hq:aY (W.ν m.Λ m.a1)<m.n
  .omega
  .exact⟨(Hq hs.C8 (xK _ _ _ hs.C8 D D)).1,aO (oZ _ _ _).1 D⟩
 .rw[Ν hp];exact⟨hm.C8,D⟩
theorem nx{d:Int}{fl:List E3}{hl:Int->Bool}{s:D6}{W:Wk}{k:Nat}{m:A8}(a5:0<=d)(h:Ry d fl k W)(hm:Qt m)(hk:k+m.Β.length<=2000)(he:(cg d fl hl s W m).1=0):Ry d fl (k+m.Β.length+1) (cg d fl hl s W m).2/\(cg d fl hl s W m).2.Κ=W.Κ++[gF d fl.length hl s W m]:=by
 unfold cg at he ⊢;by_cases K:N4 d (fl++W.Κ) s W m≠0
 .grind
 rw[Ν K] at he ⊢;have a2 : N4 d (fl++W.Κ) s W m=0:=D;by_cases T:du W m>1099511627776
 .grind
 rw[Ν T] at he ⊢;have hS:=λa i=>uD (hl:=hl) h hm D a2 a i;have hP:=Ha (hl:=hl) h hm hk a2;have hn:=hm.n
 have a3:WB (W.Κ++[gF d fl.length hl s W m]):=λf hf=>by
  rcases J8 hf with hf|hf
  .exact h.Κ f hf
  .rw[F6 hf];exact hP
 have a4:∀{W2:Wk},W2.Κ=W.Κ++[gF d fl.length hl s W m]->eZ d fl.length W2=eZ d fl.length W+1:=by grind [eZ]
 have M:0<=eZ d fl.length W:=by unfold eZ;omega
 have B:∀i,-(((fl.length:Int)+(W.Κ++[gF d fl.length hl s W m]).length)*1099511627776)<=Pu W.id m.a1 (du W m) i/\Pu W.id m.a1 (du W m) i<=1099511627776:=λi=>by
  rw[ay,aX];unfold Pu;have t1:=h.id i;grind [du]
 by_cases h3:m.to=0
 .rw[Χ h3];refine⟨⟨λa i=>?_,B,?_,a3⟩,rfl⟩
  .rw[a4 rfl];exact(hS a i).mono D D
  .have:=h.Oi
   grind
 rw[Ν h3] at he ⊢;by_cases h4:4096<=(NI hl W m m.to m.a1).length
 .grind
 rw[Ν h4];refine⟨⟨λa i=>?_,B,?_,a3⟩,rfl⟩
 .rw[a4 rfl];dsimp only;unfold Qf;split
  .exact MN aj M hn
  .exact(hS a i).mono D D
 .have:=h.Oi
  grind
