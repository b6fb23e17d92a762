/- Lemmas. -/
import Derived.Test.YtlgpgjdggilkgaaGreatDoorEdao
set_option linter.all false
set_option maxHeartbeats 1000000
namespace Go.V
def E.o0{L R:Ι}{α:Type}{Η:α->χ}{sz b an:Nat}{cs:χ}[h:Pq L b an cs R](G:List α)(hc:cs=G.flatMap Η)(hs:∀x∈G,(Η x).length=sz)(hm:G.length<=9223372036854775807):E L (τ Η sz (some ⟨b,0,none⟩) G::R) :=
 (E.perm h.perm).trans ((E.d9 hc rfl hs hm).trans E.NZ)
end Go.V
namespace Go.Proofs.YtlgpgjdggilkgaaGreatDoor
section
open Go.V
attribute [local irreducible] Β Y GP δ vi Z Ef C0 E CB GB V.Enters
def xO(bv:Nat)(ad:OA)(c:Nat)(l:π)(cs:Nat->Int)(hm:l.length<=1000000) :
  va 313 [ay bv] l.length cs (λ_=>cw [obj bv 22 [ae ad l.length c],τ (eU .i64) 1 ad ((List.range l.length).map cs)]):=by
 intro k hk L;have A:(k:Int).toNat=k:=D;have T:((List.range l.length).map cs).length=l.length:=by simp
 refine Υ.bd (args:=[K (k:Int),ay bv]) ?_;refine Β.cM E.SL ?_;simp only[aq,av];refine ML ?_;intros;rw[A,qf hk];exact KX.a8 aC (E.f8 (Φ:=[_,_]) (L:=L)) ⟨rfl,rfl⟩
def db{φ ψ:Prop}(k:ψ)(h:Hid ψ->φ:=by intro k;first|refine Y.ci (f:=311) (Hid.out k)|refine δ.ci (f:=311) (Hid.out k)|refine Y.cf (f:=311) rfl (Hid.out k)|refine δ.cf (f:=311) rfl (Hid.out k)|refine KX.RY (Hid.out k)):φ:=h ⟨k⟩
def Yo{φ ψ:Prop}(k:ψ)(h:Hid ψ->φ:=by intro k;(repeat (first|refine ab ?_|intro B8|refine db ?_));(repeat revert B8);exact Hid.out k):φ:=h ⟨k⟩
theorem Do{L:Ι}(ad:OA)(c:Nat)(G:π)(hb:G.length<=4096)(M:∀l∈G,a0 l) :
  Υ Λ 300 #[ae ad G.length c,K 0,.bool true] (τ aK 3 ad G::L) (λv Ε =>
   (aW G<0/\v=.tuple #[ae none 0 0,ae none 0 0,K 10]/\Ε = τ aK 3 ad G::L) \/
   (0<=aW G/\∃A c1 J c2,v=.tuple #[ae A (PG G (PI G 0) G.length).length c1,ae J (Pu G (PI G 0) G.length).length c2,K 0]/\Ε = μ aK 3 I5 A c1 (PG G (PI G 0) G.length)::μ aK 3 I5 J c2 (Pu G (PI G 0) G.length)::τ aK 3 ad G::L)):=by
 have hw:∀x∈G,J9 x:=λx h=>(M x h).w;have a2:=lA M G.length D;rw[nq] at a2;refine Υ.bd ?_;refine Yo ?_;intros;refine Y.cr (km ad G.length c G rfl hb M) ?_;refine Yo ?_;intros;refine Y.cr (lJ ad G.length c G rfl hb M) ?_;refine Yo ?_;intros;rename_i bl bn;refine Y.cM (Ε:=cw (Tm bn bl ad c G 0 0)::τ aK 3 ad G::τ aK 3 ad G::L) ?_ ?_
 .refine E.trans ?_ E.f8;simp only[Tm,QO,aq,av];refine(E.at (Φ:=τ aK 3 ad G) (E.dup (lC _ _ _ _))).trans ?_;refine(E.dup (lC _ _ _ _)).trans ?_;exact aj
 (first|refine Y.ef (Ef.call (oA _ _ ad c G (PI G 0) (λk=>cw (Tm bn bl ad c G 0 k)) D hw (qW D hw) (wL bn bl ad c G 0 D D ac hw)) rfl fT) ac ?_);rintro _ _⟨_,⟨A,c1,J,c2,rfl,rfl⟩,hL⟩;simp only[aq,av] at hL;subst hL;refine Yo ?_;intros;exact KX.a8 aC (E.refl _) (.inr ⟨D,A,c1,J,c2,rfl,rfl⟩)
theorem Dp{L:Ι}(ad:OA)(c:Nat)(G:π)(n:Int)(hb:G.length<=4096)(M:∀l∈G,a0 l)(a9:0<n)(a5:n<=1099511627776) :
  Υ Λ 300 #[ae ad G.length c,K n,.bool true] (τ aK 3 ad G::L) (λv Ε =>
   (aW G<n/\v=.tuple #[ae none 0 0,ae none 0 0,K 10]/\Ε = τ aK 3 ad G::L) \/
   (n<=aW G/\∃J c1 a2 c2,v=.tuple #[ae J (PG G (PR G n) G.length).length c1,ae a2 (Pu G (PR G n) G.length).length c2,K 0]/\Ε = μ aK 3 I5 J c1 (PG G (PR G n) G.length)::μ aK 3 I5 a2 c2 (Pu G (PR G n) G.length)::τ aK 3 ad G::L)):=by
 have hw:∀x∈G,J9 x:=λx h=>(M x h).w;refine Υ.bd ?_;refine Yo ?_;intros;refine Y.cr (km ad G.length c G rfl hb M) ?_;refine Yo ?_;intros;refine Y.cr (lJ ad G.length c G rfl hb M) ?_;by_cases hs:aW G<n
 .refine Yo ?_;intros;exact KX.a8 aC (E.refl _) (.inl ⟨hs,rfl,rfl⟩)
 have a6:G≠[]:=by
  rintro rfl;simp[aW] at hs;omega
 refine Yo ?_;intros;rename_i bl bn;refine Y.cM E.drop (Y.cM E.drop ?_);refine Y.ef (Ef.makeSlice (eU .i64) 0 rfl rfl rfl D D D) ac ?_;rintro _ _⟨bw,rfl,rfl⟩;rw[bB,<-mJ G.length (λk=>G[k]!.2.2)];repeat first|refine Β.sm 8 ?_|refine dz ?_|intro _|refine Y.ci (f:=311) ?_|refine δ.ci (f:=311) ?_|refine Y.cf (f:=311) rfl ?_|refine δ.cf (f:=311) rfl ?_|refine KX.RY ?_
 refine Β.c7 (α:=Unit) (λ_=>True) (λ_=>[(0,ae ad G.length c),(1,K n),(10,ae (some ⟨bw,0,none⟩) G.length G.length)]) (λ_=>τ (eU .i64) 1 (some ⟨bw,0,none⟩) (To G)::τ aK 3 ad G::L) ?_ ?_
 .refine Yo ?_;intros
  refine Β.loop (α:=Nat) (λi=>i<=G.length) (λi=>[(0,ae ad G.length c),(1,K n),(10,ae (some ⟨bw,0,none⟩) G.length G.length),(43,ae ad G.length c),(44,K G.length),(45,K (i:Int))])
   (λi=>μ (eU .i64) 1 C3 (some ⟨bw,0,none⟩) G.length (iy G.length i (λk=>G[k]!.2.2))::τ aK 3 ad G::L) (λi=>G.length - i) 0 D aG aj ?_
  intro i hi;have a7:=nY G.length i (λk=>G[k]!.2.2);by_cases a4:i<G.length
  case neg =>
   have hin:i=G.length:=D;subst hin
   have e:iy G.length G.length (λk=>G[k]!.2.2)=To G:=by
    rw[nZ];apply eX
    .simp[To]
    .grind [To]
   rw[e];refine Yo ?_;intros;exact⟨(),trivial,aG,(E.RI (some ⟨bw,0,none⟩))⟩
  have a3:(i:Int).toNat=i:=D;have h3:(iy G.length i (λk=>G[k]!.2.2)).set i G[i]!.2.2=iy G.length (i+1) (λk=>G[k]!.2.2):=nX _ a4;refine Yo ?_;intros;rw[a3,h3];refine⟨i+1,D,D,?_,by exact aj⟩;rw[bJ i];exact aG
 rintro _ _;refine Yo ?_;intros;refine Y.ca (Dv (some ⟨bw,0,none⟩) G.length G n hb M a6 D D a5) ?_;rintro _ _⟨A,c3,rfl,rfl⟩;refine Yo ?_;intros;rename_i bv;refine Y.cM (Ε:=cw [obj bv 22 [ae A G.length c3],τ (eU .i64) 1 A ((List.range G.length).map (PR G n))]::τ aK 3 ad G::τ aK 3 ad G::L) ?_ ?_
 .refine(E.RI A).trans ?_;refine E.trans ?_ E.f8;simp only[aq,av];refine(E.at (Φ:=τ aK 3 ad G) (E.dup (lC _ _ _ _))).trans ?_;exact aj
 (first|refine Y.ef (Ef.call (oA _ _ ad c G (PR G n) (λ_=>cw [obj bv 22 [ae A G.length c3],τ (eU .i64) 1 A ((List.range G.length).map (PR G n))]) D hw (FH M D D) (xO bv A c3 G (PR G n) D)) rfl fT) ac ?_);rintro _ _⟨_,⟨J,c1,a2,c2,rfl,rfl⟩,hL⟩;simp only[aq,av] at hL;subst hL;refine Yo ?_;intros;exact KX.a8 aC (E.refl _) (.inr ⟨D,J,c1,a2,c2,rfl,rfl⟩)
theorem tY(mixed:Bool):TO mixed:=by
 cases mixed with
 | false=>exact AB
 | true =>
  refine⟨λl n T h0 I k hk=>xN true l n T h0 I k hk,?_⟩;intro L ad c G n I Q h3 h4;rcases Int.lt_or_eq_of_le h3 with h5|h5
  .have e:Q5 true G n=PR G n:=Ω ⟨rfl,h5⟩;grind [nc,jF,Dp]
  .subst h5;have e:Q5 true G 0=PI G 0:=Ο (λh=>iJ h.2 D);grind [nc,jF,Do]
structure V6 where
 acc:Int
 a1:Int
 ξ:iI
 deriving Inhabited
abbrev V6.is(s:V6)(a i:Int):Prop:=s.acc=a/\s.a1=i
theorem vy{l:π}(h:∀x∈l,a0 x):0<=aW l:=by
 have:=(lA h l.length D).1
 grind
structure RLX where
 υ:K9
 ac2:List V6
 K0:OA
 P3:Nat
 Μ:List O7
 C4:OA
 F3:Nat
 Ev:List L9
 RJ:OA
 RK:Nat
def kf(ps:π)(n:Int):Prop:=ir ps/\aW ps=n/\aW (N5 ps)=n
instance (ps:π)(n:Int):Decidable (kf ps n):=by unfold kf;infer_instance
def rQ(k:Nat)(m:B1):Prop:=(0<=m.a1/\m.a1<k)/\(1<=m.n/\m.n<=1099511627776)/\m.Ν≠m.to/\(0<=m.Ν/\0<=m.to/\m.Ν<=1073741824/\m.to<=1073741824)
def EC(k:Nat)(st:Bool)(m:B1):Prop:=rQ k m/\(if st=true then kf m.Γ m.n else m.Γ.length=0)
def gW(k:Int):Bool:=dB (k=5\/k=7\/k=9)
def iz(k:Int)(m:B1):Prop:=if k=0\/k=5 then m.Ν=0 else if k=1\/k=6 then m.to=0 else if k=7 then 0<m.Ν else if k=9 then 0<m.to else 0<m.Ν/\0<m.to
instance (k:Int)(m:B1):Decidable (iz k m):=by unfold iz;infer_instance
def JG(s:D7):Prop:=s.K8 = -1/\(1<=s.Oi/\s.Oi<=1048576)/\s.gN.length=2/\s.gN[0]!.to=0/\s.gN[1]!.Ν=0/\s.gN[1]!.to=s.gN[0]!.Ν/\s.gN[0]!.n % s.Oi=0/\s.gN[1]!.n % s.Oi=0
def mX(rules:List Uk)(s:D7):Prop:=if s.Ζ=4 then Hr rules s.K8 s.Oi s.gN else if s.Ζ=10 then JG s else(∀m∈s.gN,iz s.Ζ m)/\s.K8 = -1/\s.Oi=0
def gD(c:B4)(now:Int)(s:D7):Prop :=
 (0<=s.Ζ/\s.Ζ<=10)/\PO s.Rt/\(now<=s.B/\s.B<=1099511627776)/\(1<=s.gN.length/\s.gN.length<=64)/\(∀m∈s.gN,EC c.B7.length (gW s.Ζ) m)/\mX c.rules s
noncomputable instance (a b c):Decidable (gD a b c):=Classical.propDecidable _
def JZ{s:L9}{i:Nat}(h:i<s.gN.length){L:Ι}:E (Nb s::L) (τ aK 3 s.gN[i]!.pad s.gN[i]!.m.Γ::Nb s::L):=E.d8 (f:=Na) (bI h)
theorem EE{l:π}{f n:Int}(h:∀x∈l,a0 x)(hn:1<=n):bF l (f,0,n)=l++[(f,0,n)]:=by
 grind [bF,Ti,bI,a0]
def rP(fl:List E3)(p:iK):Prop:=∃f∈fl,f.Ζ=5/\pF f.Γ [p]≠[]
instance (fl:List E3)(p:iK):Decidable (rP fl p):=by unfold rP;infer_instance
def V7(d:Int)(fl:List E3)(p:iK):Int:=if p.1 / 4294967296=d\/11<p.1 / 4294967296 then 1 else if rP fl p then 8 else 0
def TR(d:Int)(fl:List E3):π->Int
 | []=>0
 | p::ps=>if V7 d fl p=0 then TR d fl ps else V7 d fl p
def Fk(fl:List E3)(a1:Int)(p:iK):Prop:=(¬ ∃f∈fl,f.Ζ=9/\f.Ν=0/\pF f.Γ [p]≠[])/\∃f∈fl,f.Ζ≠6/\f.to=0/\f.a1=a1/\kC [p] [(f.r,0,f.n)]
instance (fl:List E3)(a1:Int)(p:iK):Decidable (Fk fl a1 p):=by unfold Fk;infer_instance
def Zb(fl:List E3)(a1:Int)(ps:π):Int:=if ∀p∈ps,Fk fl a1 p then 0 else 10
end
section
open Go.V
theorem gC(x:iK)(l:π):aW (x::l)=x.2.2+aW l:=by
 have:=gF [x] l
 rw[ga] at this;exact this
theorem jP:aW ([]:π)=0:=rfl
def ov(x y:iK):Int:=if x.1=y.1 then max 0 (min (x.2.1+x.2.2) (y.2.1+y.2.2) - max x.2.1 y.2.1) else 0
theorem rE(x y:iK):ov x y=ov y x:=by
 grind [ov]
def JC(x y:iK):0<=ov x y:=by
 unfold ov;omega
theorem rD{x y:iK}(M:a0 x)(U:a0 y):ov x y=0↔apart x y:=by
 grind [a0,ov,apart]
def OV:π->iK->Int
 | [],_=>0
 | x::l,y=>ov x y+OV l y
theorem xz:∀(l:π) (y:iK),0<=OV l y
 | [],_=>bE _
 | x::l,y=>by
  have:=xz l y
  grind [ov,OV]
def gg:∀(a b:π) (y:iK),OV (a++b) y=OV a y+OV b y
 | [],b,y=>by show OV b y=0+OV b y;omega
 | x::a,b,y=>by
  have:=gg a b y
  show ov x y+OV (a++b) y=ov x y+OV a y+OV b y;omega
def jd(x y:iK):OV [x] y=ov x y:=by show ov x y+0=ov x y;omega
def vS:∀{l:π} {y:iK},OV l y=0->∀x∈l,ov x y=0
 | x::l,y,h,z,hz=>by
  have I:=xz l y;have Q:=JC x y;have h3:ov x y+OV l y=0:=h;rcases L7 hz with rfl|hz
  .omega
  .exact vS D z hz
def OO(l:π):π->Int
 | []=>0
 | x::s=>OV l x+OO l s
theorem vT(y:iK)(l:π):∀s,OO (y::l) s=OO [y] s+OO l s
 | []=>rfl
 | x::s=>by
  have:=vT y l s
  have e:=jd y x;show(ov y x+OV l x)+OO (y::l) s=(OV [y] x+OO [y] s)+(OV l x+OO l s);omega
theorem Aw:∀s,OO [] s=0
 | []=>rfl
 | x::s=>by
  have:=Aw s
  show 0+OO [] s=0;omega
def HG(y:iK):∀s,OO [y] s=OV s y
 | []=>rfl
 | x::s=>by
  have:=HG y s
  have e:=jd y x;have c:=rE x y;show OV [y] x+OO [y] s=ov x y+OV s y;omega
theorem De:∀l s,OO l s=OO s l
 | [],s=>Aw s
 | y::l,s=>by
  rw[vT,HG,De l s];rfl
theorem HU{x y:iK}(M:a0 x)(U:a0 y):aW (Ql x y)=y.2.2 - ov y x:=by
 unfold a0 at M U;unfold Ql ov;by_cases hc:y.1≠x.1\/x.2.1+x.2.2<=y.2.1\/y.2.1+y.2.2<=x.2.1
 .grind [ga]
 .have hf:y.1=x.1:=D;rw[Ο hc,Ω hf,gF];grind [ga,jP]
theorem JY{x y t:iK}(M:a0 x)(U:a0 y)(ht:a0 t)(h:apart x t):OV (Ql x y) t=ov y t:=by
 unfold a0 at M U ht;unfold apart at h;unfold Ql;split
 .exact jd y t
 .rename_i hn;rw[gg];grind [OV,ov]
theorem sH{x:iK}(M:a0 x):∀{l:π},(∀y∈l,a0 y)->aW (M6 l x)=aW l - OV l x
 | [],_=>rfl
 | y::l,h=>by
  have e:M6 (y::l) x=Ql x y++M6 l x:=aS;have ih:=sH M (l:=l) ah;have I:=HU M (h y au);rw[e,gF,gC,ih,I];show _=y.2.2+aW l - (ov y x+OV l x);omega
theorem Cm{x t:iK}(M:a0 x)(ht:a0 t)(ha:apart x t):∀{l:π},(∀y∈l,a0 y)->OV (M6 l x) t=OV l t
 | [],_=>rfl
 | y::l,h=>by
  have e:M6 (y::l) x=Ql x y++M6 l x:=aS;have ih:=Cm M ht ha (l:=l) ah;rw[e,gg,ih,JY M ah ht ha];rfl
theorem CX:∀{set l:π},(∀x∈set,a0 x)->(∀y∈l,a0 y)->L5 set->aW (set.foldl M6 l)=aW l - OO l set
 | [],l,_,_,_=>by show aW l=aW l - 0;omega
 | x::set,l,hs,T,ha=>by
  obtain⟨J,a2⟩:=List.pairwise_cons.1 ha;have M:=hs x ah;have A:∀z∈set,a0 z:=ah;have ih:=CX (set:=set) (l:=M6 l x) A (vg M T) a2
  have a3:∀{s:π},(∀z∈s,a0 z)->(∀z∈s,apart x z)->OO (M6 l x) s=OO l s:=λ {s}=>by
   induction s with
   | nil=>intro _ _;rfl
   | cons z s ih2 =>
    grind [Cm,OO]
  have h3:=sH M T;have h4:=a3 A J;show aW (set.foldl M6 (M6 l x))=aW l - (OV l x+OO l set);omega
theorem ww:∀(Δ out:π),aW (Δ.foldl bF out)=aW out+aW Δ
 | [],out=>by show aW out=aW out+0;omega
 | x::Δ,out=>by
  have:=ww Δ (bF out x)
  rw[pG] at this;rw[gC];show aW (Δ.foldl bF (bF out x))=_;omega
theorem xI{set:π}(hs:∀x∈set,a0 x)(ha:L5 set):∀{s out:π},(∀y∈s,a0 y)->aW (s.foldl (λout y=>(jl set y).foldl bF out) out)=aW out+aW s - OO s set
 | [],out,_=>by grind [Aw,aW]
 | y::s,out,h=>by
  have U:=h y ah;have ih:=xI hs ha (s:=s) (out:=(jl set y).foldl bF out) ah;have I:aW (jl set y)=aW [y] - OO [y] set:=CX hs (λz hz=>by rw[GO hz];exact U) ha;grind [ga,ww,gC,vT]
theorem qn{s set:π}(h:∀y∈s,a0 y)(hs:∀x∈set,a0 x)(ha:L5 set):aW (jg s set)=aW s - OO s set:=by
 have:=xI hs ha (s:=s) (out:=[]) h
 rw[jP] at this;unfold jg;omega
def sl(x y:iK):Prop:=x.1<y.1\/(x.1=y.1/\x.2.1+x.2.2<y.2.1)
structure Vq (l:iK) (z:π×π×Int×Int) (Δ:π):Prop where
 lo:0<=z.2.2.1/\z.2.2.1<=l.2.1
 hi:l.2.1+l.2.2<=z.2.2.2
 hiC:z.2.2.2=l.2.1+l.2.2\/∀x∈Δ,x.1=l.1->z.2.2.2<x.2.1
 loC:z.2.2.1=l.2.1\/∀x∈Δ,x.1=l.1->l.2.1<x.2.1
 s1:(z.1++Δ).Pairwise sl
 s2:(z.2.1++Δ).Pairwise sl
 s3:∀y∈z.1,y.1<l.1\/(y.1=l.1/\y.2.1+y.2.2<z.2.2.1)
 s4:∀y∈z.2.1,(l.1<y.1\/(y.1=l.1/\z.2.2.2<y.2.1))/\1<=y.2.2
def Ru(z:π×π×Int×Int):Int:=aW z.1+aW z.2.1+(z.2.2.2 - z.2.2.1)
def Q7(f:Int)(z:π×π×Int×Int)(t:iK):Int:=OV z.1 t+OV z.2.1 t+ov (f,z.2.2.1,z.2.2.2 - z.2.2.1) t
theorem IB{l:iK}{z:π×π×Int×Int}{x:iK}{Δ:π}(T:a0 l)(M:a0 x)(h:Vq l z (x::Δ)):Vq l (Qk l.1 z x) Δ/\Ru (Qk l.1 z x)=Ru z+x.2.2 - ov x l/\(ov x l=0->∀t,a0 t->Q7 l.1 (Qk l.1 z x) t=Q7 l.1 z t+ov x t):=by
 obtain⟨⟨b0,b1⟩,b2,b3,b4,s1,s2,s3,s4⟩:=h;have a9:x∈x::Δ:=ah;have hr:∀{y},y∈Δ->y∈x::Δ:=ah;have b5:∀y∈Δ,sl x y:=by grind [List.pairwise_cons]
 have a4:∀y∈z.1,sl y x:=ah;have a5:∀y∈z.2.1,sl y x:=ah;have a2:=T;have a3:=M;unfold a0 at a2 a3;have A:(z.1++Δ).Pairwise sl:=ah;have J:(z.2.1++Δ).Pairwise sl:=ah;unfold Qk;by_cases c1:x.1<l.1\/(x.1=l.1/\x.2.1+x.2.2<z.2.2.1)
 .rw[Ω c1];have e0:ov x l=0:=by unfold ov;split<;>omega
  refine⟨⟨⟨b0,b1⟩,b2,ah,ah,?_,J,?_,s4⟩,?_,λ_ t _=>?_⟩
  .grind
  .grind
  .grind [Ru,gF,ga]
  .unfold Q7;dsimp only;rw[gg,jd];omega
 rw[Ο c1];by_cases c2:l.1<x.1\/z.2.2.2<x.2.1
 .rw[Ω c2];have e0:ov x l=0:=by unfold ov;split<;>omega
  refine⟨⟨⟨b0,b1⟩,b2,ah,ah,A,?_,s3,?_⟩,?_,λ_ t _=>?_⟩
  .grind
  .grind
  .grind [Ru,gF,ga]
  .unfold Q7;dsimp only;rw[gg,jd];omega
 rw[Ο c2];have hf:x.1=l.1:=D
 have a6:z.2.2.2=l.2.1+l.2.2:=by
  rcases b3 with q|q
  .exact q
  .grind
 have a7:z.2.2.1=l.2.1\/l.2.1<x.2.1:=ah;refine⟨⟨ah,ah,?_,?_,A,J,?_,?_⟩,?_,λe0 t ht=>?_⟩
 .grind [sl]
 .grind [sl]
 .grind [sl]
 .grind [sl]
 .unfold Ru ov;rw[Ω hf];dsimp only;omega
 .unfold ov at e0;rw[Ω hf] at e0;unfold Q7;dsimp only
  have key:ov (l.1,min z.2.2.1 x.2.1,max z.2.2.2 (x.2.1+x.2.2) - min z.2.2.1 x.2.1) t=ov (l.1,z.2.2.1,z.2.2.2 - z.2.2.1) t+ov x t:=by
   unfold a0 at ht;unfold ov;dsimp only;by_cases g:l.1=t.1
   .rw[Ω g,Ω g,Ω (hf.trans g)];omega
   .grind
  omega
def vx{l:iK}(T:a0 l):∀{Δ:π} {z:π×π×Int×Int},(∀x∈Δ,a0 x)->Vq l z Δ->Vq l (Δ.foldl (Qk l.1) z) []/\Ru (Δ.foldl (Qk l.1) z)=Ru z+aW Δ - OV Δ l/\(OV Δ l=0->∀t,a0 t->Q7 l.1 (Δ.foldl (Qk l.1) z) t=Q7 l.1 z t+OV Δ t)
 | [],z,_,h=>⟨h,by show Ru z=Ru z+0 - 0;omega,λ_ t _=>by show Q7 l.1 z t=Q7 l.1 z t+0;omega⟩
 | x::Δ,z,hr,h=>by
  obtain⟨I,Q,h3⟩:=IB T (hr x au) h;obtain⟨i1,i2,i3⟩:=vx T (Δ:=Δ) (z:=Qk l.1 z x) (λy U=>hr y (az _ U)) I;have e:OV (x::Δ) l=ov x l+OV Δ l:=rfl;have n1:=JC x l;have n2:=xz Δ l;refine⟨i1,?_,λq t ht=>?_⟩
  .show Ru (Δ.foldl (Qk l.1) (Qk l.1 z x))=_;rw[gC];omega
  .have g1:=h3 D t ht;have g2:=i3 D t ht;show Q7 l.1 (Δ.foldl (Qk l.1) (Qk l.1 z x)) t=Q7 l.1 z t+(ov x t+OV Δ t);omega
theorem IN{l:iK}{s:π}(T:a0 l)(hs:∀x∈s,a0 x)(hp:s.Pairwise sl):(RL s l).Pairwise sl/\aW (RL s l)=aW s+l.2.2 - OV s l/\(OV s l=0->∀t,a0 t->OV (RL s l) t=OV s t+ov l t):=by
 have A:=T;unfold a0 at A;obtain⟨⟨_,_,_,_,_,_,s3,s4⟩,Q,h3⟩:=vx T (Δ:=s) (z:=([],[],l.2.1,l.2.1+l.2.2)) hs ⟨ah,bE _,.inl rfl,.inl rfl,hp,hp,ah,ah⟩;have hm:=vx T (Δ:=s) (z:=([],[],l.2.1,l.2.1+l.2.2)) hs ⟨ah,bE _,.inl rfl,.inl rfl,hp,hp,ah,ah⟩;have p1:=hm.1.s1;have p2:=hm.1.s2;have q1:=hm.1.lo;have q2:=hm.1.hi;rw[aJ] at p1 p2;have e:s.foldl (Qk l.1) ([],[],l.2.1,l.2.1+l.2.2)=P5 s l:=rfl;rw[e] at s3 s4 Q h3 p1 p2 q1 q2;clear hm;have z0:Ru ([],[],l.2.1,l.2.1+l.2.2)=l.2.2:=by unfold Ru;dsimp only;rw[jP];omega
 unfold RL;generalize P5 s l=z at *;refine⟨?_,?_,λq t ht=>?_⟩
 .grind [sl]
 .rw[gF,gF,ga];grind [Ru]
 .have g:=h3 q t ht
  have e0:Q7 l.1 ([],[],l.2.1,l.2.1+l.2.2) t=ov l t:=by
   unfold Q7;dsimp only;have:l.2.1+l.2.2 - l.2.1=l.2.2:=D;rw[this];show 0+0+ov (l.1,l.2.1,l.2.2) t=ov l t;rw[show(l.1,l.2.1,l.2.2)=l from rfl];omega
  rw[e0] at g;unfold Q7 at g;rw[gg,gg,jd];omega
theorem ng{ps:π}(h:∀x∈ps,a0 x):∀i,i<=ps.length->(N5 (ps.take i)).Pairwise sl/\aW (N5 (ps.take i))<=aW (ps.take i)/\(aW (N5 (ps.take i))=aW (ps.take i)->L5 (ps.take i)/\∀t,a0 t->OV (N5 (ps.take i)) t=OV (ps.take i) t)/\(L5 (ps.take i)->aW (N5 (ps.take i))=aW (ps.take i))
 | 0,_=>⟨List.Pairwise.nil,bE _,λ_=>⟨List.Pairwise.nil,λ_ _=>rfl⟩,λ_=>rfl⟩
 | i+1,hi=>by
  obtain⟨I,Q,h3,h4⟩:=ng h i D;have A:i<ps.length:=D;have M:=h _ (bI A);have a4:=(qv h i D).2;have e:N5 (ps.take (i+1))=RL (N5 (ps.take i)) ps[i]!:=jY RL [] A;have et:ps.take (i+1)=ps.take i++[ps[i]!]:=by rw[aB A,E7 A]
  have a3:aW (ps.take (i+1))=aW (ps.take i)+ps[i]!.2.2:=gB ps A;have a5:∀x∈ps.take i,a0 x:=ah;obtain⟨g1,g2,g3⟩:=IN M a4 I;have nn:=xz (N5 (ps.take i)) ps[i]!;rw[e,a3];refine⟨g1,D,λq=>?_,λq=>?_⟩
  .obtain⟨J,a2⟩:=h3 D;have z:OV (N5 (ps.take i)) ps[i]! = 0:=D;rw[et];refine⟨List.pairwise_append.2 ⟨J,dC _ _,λy U w hw=>?_⟩,λt ht=>?_⟩
   .rw[GO hw];rw[a2 _ M] at z;exact(rD (a5 y U) M).1 (vS z y U)
   .rw[g3 z t ht,a2 t ht,gg,jd]
  .rw[et] at q;obtain⟨q1,_,q3⟩:=List.pairwise_append.1 q;have h5:=h4 q1;have h6:=(h3 h5).2 _ M
   have z:∀{l:π},(∀y∈l,a0 y)->(∀y∈l,apart y ps[i]!)->OV l ps[i]! = 0:=λ {l}=>by
    induction l with
    | nil=>intro _ _;rfl
    | cons y l ih =>
     grind [rD,OV]
   grind
theorem sK{ps:π}(h:∀x∈ps,a0 x):aW (N5 ps)=aW ps↔L5 ps:=by
 obtain⟨_,_,h3,h4⟩:=ng h ps.length D;grind
theorem xV{s:π}(h:s.Pairwise sl):L5 s:=h.imp (by grind [sl,apart])
theorem JI{a b:π}:∀{s:π},(∀t∈s,OV a t=OV b t)->OO a s=OO b s
 | [],_=>rfl
 | x::s,h=>by
  have I:=h x au;have Q:=JI (s:=s) (λt ht=>h t (az _ ht));show OV a x+OO a s=OV b x+OO b s;omega
theorem Dg{ps sh:π}(hw:kC ps sh)(ha:L5 sh)(hd:aW (N5 ps)=aW ps):aW (jg sh ps)=aW sh - aW ps:=by
 obtain⟨⟨I,_⟩,⟨Q,_⟩,h3⟩:=hw;have hs:=ru I;have e1:aW (kl ps sh)=aW (N5 ps) - OO (N5 ps) sh:=qn hs.2 Q ha;grind [jP,qn,ng,cK,JI,De]
