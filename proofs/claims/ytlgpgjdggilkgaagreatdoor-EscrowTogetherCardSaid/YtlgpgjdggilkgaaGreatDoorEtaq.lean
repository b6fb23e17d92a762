/- Lemmas. -/
import Derived.Test.YtlgpgjdggilkgaaGreatDoorEtap
import Derived.Defers
import Derived.Recover
set_option linter.all false
namespace Go.Proofs.YtlgpgjdggilkgaaGreatDoor
section
open Go.V
attribute [local irreducible] Α GO GP δ ms Ev Ef C0 F CB GB V.Enters
theorem Jk{d:Int}{fl:List E3}{s:D6}{W:Wk}{m:A8}{mixed:Bool}{k:Nat}{A:Int}(hw:Q3 k A (W.ν m.Λ m.a1))(hm:Qt m)(h0:¬m.Λ=0)(he:N4 d fl s W m=0):aY (if m.Β=[] then jH mixed (W.ν m.Λ m.a1) m.n else jh (W.ν m.Λ m.a1) m.Β)=aY (W.ν m.Λ m.a1) - m.n:=by
 have hn:=hm.n;unfold N4 at he;rw[Ν h0] at he;by_cases hp:m.Β=[]
 .rw[Χ hp] at he ⊢;by_cases hq:aY (W.ν m.Λ m.a1)<m.n
  .omega
  .exact GG hw.C8 D D
 .rw[Ν hp] at he ⊢;by_cases hq:kE m.Β (W.ν m.Λ m.a1)
  .rcases hm.Β with g|⟨_,g2,g3⟩
   .grind
   .rw[Dj hq hw.Uk D,g2]
  grind
def C5:List A8->Nat
 | []=>0
 | m::Q=>(m.Β.length+1)+C5 Q
theorem mH:∀(a b:List A8),C5 (a++b)=C5 a+C5 b
 | [],b=>by show C5 b=0+C5 b;omega
 | m::a,b=>by
  have:=mH a b
  show(m.Β.length+1)+C5 (a++b)=(m.Β.length+1)+C5 a+C5 b;omega
def IK{Q:List A8}{i:Nat}(h:i<Q.length):C5 (Q.take (i+1))=C5 (Q.take i)+(Q[i]!.Β.length+1):=by
 rw[aB h,mH,D7 h];rfl
theorem Mb(Q:List A8)(i:Nat):C5 (Q.take i)<=C5 Q:=by
 grind [mH,cK]
def cR(d:Int)(fl:List E3)(hl:Int->Bool)(s:D6)(W:Wk):List A8->Int×Wk
 | []=>(0,W)
 | m::Q=>if(cg d fl hl s W m).1=0 then cR d fl hl s (cg d fl hl s W m).2 Q else((cg d fl hl s W m).1,W)
noncomputable def E2(S:Ρ)(s:D6):Int×Wk :=
 if 65536<=S.D9.length then(4,ND S)
 else if ¬gC S.π S.now s then(1,ND S)
 else cR S.D8 S.Κ (fV S.π) (s.at (cT S)) (ND S) s.fe
noncomputable def fC(S:Ρ)(s:D6):Ρ:={ S with ν:=(E2 S s).2.ν,id:=(E2 S s).2.id,D9:=S.D9++[s.at (cT S)],Κ:=S.Κ++(E2 S s).2.Κ }
noncomputable def bM(S:Ρ)(s:D6):Ρ:=if(E2 S s).1=0 then fC S s else S
noncomputable def Vl(S:Ρ)(s:D6):Int:=if(E2 S s).1=0 then cT S else 0
structure Sk (k:Nat) (S:Ρ):Prop where
 D8:0<=S.D8/\S.D8<12
 D9:S.D9.length<=65536
 Κ:S.Κ.length<=64*S.D9.length
 ν:∀a i,Q3 k (S.D8*4294967296+S.Κ.length) (S.ν a i)
 id:∀i,-((S.Κ.length:Int)*1099511627776)<=S.id i/\S.id i<=1099511627776
 fl:WB S.Κ
def tM{k:Nat}{S:Ρ}(h:Sk k S):Ry S.D8 S.Κ (k+C5 ([]:List A8)) (ND S):=by
 have e:eZ S.D8 S.Κ.length (ND S)=S.D8*4294967296+S.Κ.length:=by
  show S.D8*4294967296+(S.Κ.length:Int)+((0:Nat):Int)=_;omega
 refine⟨λa i=>by rw[e];exact h.ν a i,λi=>?_,an _,λf hf=>by cases hf⟩;have:=h.id i
 show -(((S.Κ.length:Int)+((0:Nat):Int))*1099511627776)<=S.id i/\S.id i<=1099511627776;omega
def qV{d:Int}{fl:List E3}{hl:Int->Bool}{s:D6}(B:0<=d):∀{Q:List A8} {W:Wk} {k:Nat},Ry d fl k W->(∀m∈Q,Qt m)->k+C5 Q<=2000->(cR d fl hl s W Q).1=0->Ry d fl (k+C5 Q) (cR d fl hl s W Q).2/\(cR d fl hl s W Q).2.Κ.length=W.Κ.length+Q.length
 | [],_,_,h,_,_,_=>⟨h,rfl⟩
 | m::Q,W,k,h,hm,hk,he=>by
  have e:cR d fl hl s W (m::Q)=if(cg d fl hl s W m).1=0 then cR d fl hl s (cg d fl hl s W m).2 Q else((cg d fl hl s W m).1,W):=rfl;have ek:C5 (m::Q)=(m.Β.length+1)+C5 Q:=rfl;rw[e] at he ⊢;by_cases K:(cg d fl hl s W m).1=0
  .rw[Χ K] at he ⊢;obtain⟨g1,g2⟩:=nx B h (hm m aA) D K;obtain⟨i1,i2⟩:=qV B (Q:=Q) g1 (λx O=>hm x (az _ O)) D he;refine⟨by rw[ek,<-dh,<-dh];exact i1,?_⟩;rw[i2,g2,ay,aX,aK];omega
  .rw[Ν K] at he;exact hD he K
def GZ{S:Ρ}{s:D6}(hp:gC S.π S.now s)(h0:0<=S.now):0<=(fC S s).now:=by
 unfold Ρ.now fC;simp only[List.getLast?_append,List.getLast?_singleton];have:=hp.2.2.1
 show 0<=s.E;omega
theorem pC{c:B0}{now:Int}{s:D6}(h:gC c now s):∀m∈s.fe,Qt m:=λm hm=>by
 have B:=h.2.2.2.2.1 m hm;refine⟨B.1.2.1,B.1.2.2.1,?_⟩;have h3:=B.2;grind
theorem Lk{k:Nat}{S:Ρ}{s:D6}(h:Sk k S)(hk:k+C5 s.fe<=2000):Sk (k+C5 s.fe) (bM S s):=by
 unfold bM;by_cases he:(E2 S s).1=0
 case neg =>
  rw[Ν he];exact⟨h.D8,h.D9,h.Κ,λa i=>(h.ν a i).mono D D,h.id,h.fl⟩
 rw[Χ he];have a3:=h.D9;have a2:=h.Κ;by_cases K:65536<=S.D9.length
 .grind [E2]
 by_cases T:gC S.π S.now s
 case neg =>
  grind [E2]
 have e:E2 S s=cR S.D8 S.Κ (fV S.π) (s.at (cT S)) (ND S) s.fe:=by unfold E2;rw[Ν K,Ν (λq=>q T)]
 have M:=T.2.2.2.1;rw[e] at he;obtain⟨g1,g2⟩:=qV h.D8.1 (tM h) (pC T) (by show k+0+_<=_;omega) he;unfold fC;rw[e];have e0:(ND S).Κ.length=0:=rfl;rw[e0,dw] at g2
 have B:eZ S.D8 S.Κ.length (cR S.D8 S.Κ (fV S.π) (s.at (cT S)) (ND S) s.fe).2=S.D8*4294967296+((S.Κ++(cR S.D8 S.Κ (fV S.π) (s.at (cT S)) (ND S) s.fe).2.Κ).length:Int):=by
  unfold eZ;rw[ay];omega
 refine⟨h.D8,?_,?_,λa i=>?_,λi=>?_,λf hf=>?_⟩
 .grind
 .grind
 .dsimp only;rw[<-B];exact g1.ν a i
 .have:=g1.id i
  grind
 .rcases J8 (show f∈S.Κ++_ from hf) with q|q
  .exact h.fl f q
  .exact g1.Κ f q
def PF(k:Int):Prop:=k=0\/k=1\/k=2\/k=5\/k=6
structure Sl (s:M0):Prop where
 kd:PF s.Δ
 len:s.fe.length<=1000000
 K9:vi s.K9
 Β:∀m∈s.fe,m.m.Β.length<=9223372036854775807
 cap:∀m∈s.fe,m.m.Β.length<=m.J2
 bd:∀m∈s.fe,∀p∈m.m.Β,p.1<=9223372036854775807
def mR{L:Η}(n k:Int)(hn:vi n)(T:1<=k)(h3:k<=9223372036854775807) :
  Τ Θ 10 #[J n,J k] L (λv Γ=>∃p,v=J p/\(0<=p/\p<k)/\Γ = L):=by
 obtain⟨h0,K⟩:=hn;refine Τ.bd ?_;by_cases h:n<0
 .have g1:=eH (-(n+1)) (D:k≠0);have g2:=dp (-(n+1)) (D:0<k);refine Nd ?_;intros;exact KX.en ⟨_,rfl,⟨g1,g2⟩,rfl⟩
 .have g1:=eH n (D:k≠0);have g2:=dp n (D:0<k);refine Nd ?_;intros;exact KX.en ⟨_,rfl,⟨g1,g2⟩,rfl⟩
theorem kA{L:Η}(ad:OA)(n c:Nat)(I:List Int)[F2 L ad Int (dJ .i64) 1 I](hn:n=I.length)(O:∀x∈I,vi x)(i k:Int)(hk:1<=k/\k<=9223372036854775807) :
  Τ Θ 67 #[ah ad n c,J i,J k] L (λv Γ=>∃p,v=J p/\(0<=p/\p<k)/\Γ = L):=by
 subst hn;refine Τ.bd ?_;by_cases h0:0<=i
 case neg =>
  refine Nd ?_;intros;exact KX.a8 aF (F.refl _) ⟨0,rfl,D,rfl⟩
 by_cases B:i<I.length
 case neg =>
  refine Nd ?_;intros;exact KX.a8 aF (F.refl _) ⟨0,rfl,D,rfl⟩
 have hin:i.toNat<I.length:=D;refine Nd ?_;intros;refine GO.ca (mR I[i.toNat]! k aj hk.1 hk.2) ?_;rintro _ _⟨p,rfl,hp,rfl⟩;refine Nd ?_;intros;exact KX.en ⟨_,rfl,hp,rfl⟩
end
section
open Go.V
def Ju{α β:Type}(a:α)(g:α->List β):[a].flatMap g=g a:=by simp
end
section
open Go.V
attribute [local irreducible] Α GO GP δ ms Ev Ef C0 F CB GB V.Enters
abbrev Hd:=Int×Int×Int
def kb(h:Int×Int×Int):τ:=[J h.1,J h.2.1,J h.2.2]
def wK(t:Hd):∀u∈kb t,u.oneCell' = true:=by simp[kb,Value.oneCell']
abbrev VW:Nat:=73
def Q4(x y:Hd):Int:=UR (PD x.1 y.1) (PD x.2.1 y.2.1)
def SX(x y:Hd):Prop:=x.1<y.1\/(x.1=y.1/\x.2.1<y.2.1)
theorem qQ(x y:Hd):Q4 x y<0↔SX x y:=by
 grind [Q4,UR,PD,SX]
theorem CN:Go.Sort.SWO (ltOf Q4) where
 irrefl x:=by grind [ltOf,qQ,SX]
 trans x y z K T:=by grind [ltOf,qQ,SX]
 ntrans x y z K T:=by grind [ltOf,qQ,SX]
structure TT (f:Int->Int->Int) (hs:List Hd):Prop where
 XE:hs.Pairwise SX
 mem:∀h,h∈hs↔h.2.2=f h.1 h.2.1/\h.2.2≠0
end
section
open Go.V
def Sm(ys:ο)(f:Int):ο:=ys.filter (λp=>decide (p.1=f))
end
section
open Go.V
attribute [local irreducible] Α GO GP δ ms Ev Ef C0 F CB GB V.Enters
def Sn(x y:h2):Prop:=x.2.1<y.2.1+y.2.2/\y.2.1<x.2.1+x.2.2
instance (x y:h2):Decidable (Sn x y):=by unfold Sn;infer_instance
def kj(l:ο)(n:Int):Prop:=ip l/\L7 l/\aY l=n
theorem ul{l:ο}{n:Int}:kj l n↔ki l n:=by
 constructor
 .rintro⟨K,T,h3⟩;exact⟨K,h3,((sK K.1).2 T).trans h3⟩
 .rintro⟨K,T,h3⟩;exact⟨K,(sK K.1).1 D,T⟩
def Fq{x y:h2}(h:apart x y):apart y x:=by unfold apart at *;omega
def L7.perm{l m:ο}(h:L7 l)(p:m.Perm l):L7 m:=(p.pairwise_iff (λ {a b} q=>Fq q)).2 h
end
section
open Go.V
theorem LG{a b:ο}(p:a.Perm b)(t:h2):OV a t=OV b t:=by
 induction p with
 | nil=>rfl
 | cons x p ih=>grind [OV]
 | swap x y l=>grind [OV]
 | trans p1 p2 ih1 ih2=>omega
def Gx{a b:ο}(p:a.Perm b):aY a=aY b:=by
 induction p with
 | nil=>rfl
 | cons x p ih=>rw[gB,gB,ih]
 | swap x y l=>rw[gB,gB,gB,gB];omega
 | trans p1 p2 ih1 ih2=>omega
theorem TU{ys:ο}{f:Int}{p:h2}:p∈Sm ys f↔p∈ys/\p.1=f:=by
 unfold Sm;grind
end
end Go.Proofs.YtlgpgjdggilkgaaGreatDoor
namespace Go.V
theorem F.g9{α:Type}{f:α->HP}{l l' : List α}(h:l.Perm l'){L:Η}:F (ey f l::L) (ey f l'::L):=λθ R w s=>by
 have s1:=Sat.QB (Ο:=l.map f) s;have s2:Sat θ (l'.map f++(L++R)) w:=s1.perm ((h.map f).append_right _);exact Sat.a8 (Ο:=l'.map f) s2
end Go.V
namespace Go.Proofs.YtlgpgjdggilkgaaGreatDoor
section
open Go.V
attribute [local irreducible] Α GO GP δ ms Ev Ef C0 F CB GB V.Enters
section
variable {κ α:Type}[DecidableEq κ]
def pS:∀{m:List (κ×α)} {k:κ},k∉m.map (·.1)->I1 m k=m
 | [],_,_=>rfl
 | p::m,k,h=>by
  simp only[aq,fI,not_or] at h;have e:(p.1 == k)=false:=by rw[beq_eq_false_iff_ne];exact λx=>h.1 x.symm
  have ih:=pS (m:=m) (k:=k) h.2;unfold I1 at ih ⊢;rw[dE (by rw[e];rfl),ih]
def nw:∀{m:List (κ×α)} {k:κ},ζ m k=none->k∉m.map (·.1)
 | [],_,_=>by simp
 | p::m,k,h=>by
  obtain⟨q,a⟩:=p;unfold ζ at h;rw[cA] at h;by_cases e:k=q
  .subst e;simp at h
  .have e2:(k == q)=false:=by rw[beq_eq_false_iff_ne];exact e
   rw[e2] at h;have:=nw (m:=m) (k:=k) h
   simp only[aq,fI,not_or];exact⟨e,this⟩
theorem mf:∀{m:List (κ×α)} {k:κ} {a:α},(m.map (·.1)).Nodup->ζ m k=some a->m.Perm ((k,a)::I1 m k)
 | [],_,_,_,h=>by cases h
 | p::m,k,a,hn,h=>by
  obtain⟨q,b⟩:=p;simp only[aq,eD] at hn;unfold ζ at h;rw[cA] at h;by_cases e:k=q
  .subst e;simp only[beq_self_eq_true] at h;obtain rfl:b=a:=by simpa using h
   have e3:I1 ((k,b)::m) k=m:=by
    have:=pS hn.1
    unfold I1 at this ⊢;rw[List.filter_cons_of_neg cj,this]
   rw[e3]
  .have e2:(k == q)=false:=by rw[beq_eq_false_iff_ne];exact e
   rw[e2] at h;have ih:=mf hn.2 h
   have e3:I1 ((q,b)::m) k=(q,b)::I1 m k:=by
    unfold I1;rw[dE aj]
   rw[e3];exact(List.Perm.cons _ ih).trans (List.Perm.swap _ _ _)
theorem wD{k:κ}{a:α}:∀m:List (κ×α),I1 (m.map λp=>if p.1=k then(k,a) else p) k=I1 m k
 | []=>rfl
 | p::m=>by
  have ih:=wD (k:=k) (a:=a) m;grind [I1]
theorem qT{m:List (κ×α)}{k:κ}{a:α}(hn:(m.map (·.1)).Nodup):(cZ m k a).Perm ((k,a)::I1 m k):=by
 have K:=mf (m:=cZ m k a) (k:=k) (a:=a) (iD hn) (by rw[cF,Χ rfl])
 have T:I1 (cZ m k a) k=I1 m k:=by
  unfold cZ;split
  .exact wD m
  .grind [I1]
 grind
end
end
section
open Go.V
def HT(l:ο):∀a b:ο,OO l (a++b)=OO l a+OO l b
 | [],b=>by show OO l b=0+OO l b;omega
 | x::a,b=>by
  have:=HT l a b
  show OV l x+OO l (a++b)=OV l x+OO l a+OO l b;omega
theorem yQ(y:h2)(f a n m:Int)(hn:0<=n)(hm:0<=m)(Y:0<=y.2.2):ov y (f,a,n+m)=ov y (f,a,n)+ov y (f,a+n,m):=by
 unfold ov;grind
def Aw(f a n m:Int)(hn:0<=n)(hm:0<=m):∀l:ο,(∀y∈l,a0 y)->OV l (f,a,n+m)=OV l (f,a,n)+OV l (f,a+n,m)
 | [],_=>rfl
 | y::l,h=>by
  have Y:=h y aA;unfold a0 at Y;have K:=yQ y f a n m hn hm D;have T:=Aw f a n m hn hm l (λz hz=>h z (az _ hz));show ov y _+OV l _=(ov y _+OV l _)+(ov y _+OV l _);omega
theorem Ay(f a:Int):∀l:ο,(∀y∈l,a0 y)->OV l (f,a,0)=0
 | [],_=>rfl
 | y::l,h=>by
  have T:=Ay f a l (λz hz=>h z (az _ hz))
  have K:ov y (f,a,0)=0:=by
   unfold ov;dsimp only;split<;>omega
  show ov y _+OV l _=0;omega
theorem HR(l:ο)(x:h2):∀(s:ο) (k:Nat),k<s.length->OO l (s.set k x)=OO l s - OV l s[k]! + OV l x
 | y::s,0,_=>by
  grind [OO]
 | y::s,k+1,h=>by
  have:=HR l x s k (by simpa using h)
  show OV l y+OO l (s.set k x)=OV l y+OO l s - OV l s[k]! + OV l x;omega
theorem Dg{l:ο}(U:∀y∈l,a0 y):∀(r out:ο),(∀z∈r,J9 z)->(∀z∈out,J9 z)->OO l (r.foldl bH out)=OO l out+OO l r
 | [],out,_,_=>by show OO l out=OO l out+0;omega
 | x::r,out,K,T=>by
  have O:=K x aj;have ih:=Dg U r (bH out x) aj (CE T O)
  have e:OO l (bH out x)=OO l out+OV l x:=by
   unfold bH;by_cases c0:x.2.2=0
   .grind [Ay]
   .rw[Ν c0];by_cases c1:out.length≠0/\lM x out[out.length - 1]!
    .rw[Χ c1,HR l _ out _ D];have hb:=T _ (bA (D:out.length - 1<out.length));have hc:=TL.1 c1.2;generalize out[out.length - 1]! = b at *;unfold J9 at hb O;have:=Aw b.1 b.2.1 b.2.2 x.2.2 D D l U
     grind
    .rw[Ν c1,HT];grind [OO]
  grind [OO]
def Df{w:h2}:∀{l:ο},(∀q∈l,ov q w=0)->OV l w=0
 | [],_=>rfl
 | q::l,h=>by
  have K:=h q aA;have T:=Df (l:=l) (λp hp=>h p (az _ hp));show ov q w+OV l w=0;omega
theorem wQ{w:h2}:∀{l:ο} {y:h2},(∀z∈l,a0 z)->L7 l->y∈l->0<=w.2.2->w.1=y.1->y.2.1<=w.2.1->w.2.1+w.2.2<=y.2.1+y.2.2->OV l w=w.2.2
 | z::l,y,U,ha,Y,h0,K,T,h3=>by
  obtain⟨M,a2⟩:=List.pairwise_cons.1 ha;have hz:=U z aj;unfold a0 at hz;have B:∀q∈l,a0 q:=aj;show ov z w+OV l w=w.2.2;rcases Nj Y with rfl|Y
  .have e1:ov y w=w.2.2:=by
    unfold ov;rw[Χ K.symm];omega
   have e2:OV l w=0:=by
    refine Df (λq hq=>?_);have g1:=M q hq;have g2:=B q hq;unfold apart at g1;unfold a0 at g2;unfold ov;split<;>omega
   omega
  .have ih:=wQ B a2 Y h0 K T h3;have g1:=M y Y;have a3:=B y Y;unfold a0 at a3;unfold apart at g1
   have e1:ov z w=0:=by
    unfold ov;split<;>omega
   omega
theorem wR{l:ο}(U:∀z∈l,a0 z)(ha:L7 l):∀{s:ο},(∀w∈s,a0 w/\∃y∈l,w.1=y.1/\y.2.1<=w.2.1/\w.2.1+w.2.2<=y.2.1+y.2.2)->OO l s=aY s
 | [],_=>by rw[jR];rfl
 | w::s,h=>by
  obtain⟨K,y,Y,T,h3,h4⟩:=h w aA;have ih:=wR U ha (s:=s) (λq hq=>h q (az _ hq));unfold a0 at K;have e:=wQ U ha Y D T h3 h4;rw[gB];show OV l w+OO l s=_;omega
theorem IM{a:ο}(h:∀x∈a,a0 x){p:h2}(hp:a0 p):aY (pK a [p])=OV (Ou a) p:=by
 have hs:=(rt h).2
 have a2:L7 (Ou a):=by
  have:=(nk h a.length D).1
  rw[cz] at this;exact xS this
 have M:∀x∈[p],a0 x:=aj;have e0:ko a [p]=(Np (Ou a) p).foldl bH []:=xG _ _;have hX:=(wo h M).1;have hin:∀w∈Np (Ou a) p,a0 w/\∃y∈Ou a,w.1=y.1/\y.2.1<=w.2.1/\w.2.1+w.2.2<=y.2.1+y.2.2:=by grind [rp]
 have B:L7 (ko a [p]):=by
  rw[e0];refine kY ?_ (λz hz=>?_)
  .grind [mD]
  .grind [a0]
 have e1:aY (pK a [p])=aY (Ou a) - OO (Ou a) (ko a [p]):=qp hs hX B
 have e2:OO (Ou a) (ko a [p])=OO (Ou a) (Np (Ou a) p):=by
  rw[e0,Dg hs _ _ (λz hz=>(hin z hz).1.w) aj];show 0+_=_;omega
 grind [wR,sH]
theorem Ax{l:ο}{p:h2}(U:∀y∈l,a0 y)(hp:a0 p):OV l p≠0↔∃y∈l,¬apart y p:=by
 constructor
 .intro h;refine Classical.byContradiction (λq=>h ?_);have B:∀y∈l,apart y p:=λy Y=>Classical.byContradiction (λr=>q ⟨y,Y,r⟩);clear h q;induction l with
  | nil=>rfl
  | cons y l ih =>
   grind [rC,OV]
 .rintro⟨y,Y,hn⟩ e;exact hn ((rC (U y Y) hp).1 (vN e y Y))
theorem ze{a:ο}(h:∀x∈a,a0 x)(ha:L7 a){p:h2}(hp:a0 p):pK a [p]≠[]↔∃y∈a,y.1=p.1/\Sn p y:=by
 have hs:=(rt h).2;have M:∀x∈[p],a0 x:=aj;have B:∀z∈pK a [p],a0 z:=(xF hs (wo h M).1).1;have e:=IM h hp;obtain⟨_,_,g3,_⟩:=nk h a.length D;rw[cz] at g3;have e2:OV (Ou a) p=OV a p:=aj
 have e3:pK a [p]≠[]↔OV a p≠0:=by
  rw[<-e2,<-e];constructor
  .intro T h3;have:=lC B (List.length_pos_iff.2 T)
   omega
  .grind [jR]
 grind [Ax,apart,Sn]
end
end Go.Proofs.YtlgpgjdggilkgaaGreatDoor
namespace Go.V
section
section
variable {P:Program}{N:Nat}{env:Env}{L:Η}{Ξ:F4}{ty:TypeId}
def Enters.go{f:FuncId}(h:Enters P f)(args:Array Value)(w:World):(callFunc f args).run P w=.ok (.enter f args) w:=h args w
def WC(θ:Th)(R:Η)(pr:Value->Η->Prop)(pp:List PanicEntry->Η->Prop):Ending->World->Prop
 | .returned v,w=>∃Γ,pr v Γ/\Sat θ (Γ++R) w
 | .panicked ch,w=>∃Γ,pp ch Γ/\Sat θ (Γ++R) w
 | .outgrown,_=>False
structure TV (P:Program) (f:FuncId) (args:Array Value) (L:Η) (pr:Value->Η->Prop) (pp:List PanicEntry->Η->Prop):Prop where
 enters:Enters P f
 calls:∀θ R w,Sat θ (L++R) w->Calls P f args w (WC θ R pr pp)
def TV.mono{f:FuncId}{args:Array Value}{pr M : Value->Η->Prop}{pp B : List PanicEntry->Η->Prop}(h:TV P f args L pr pp)(K:∀v L,pr v L->M v L)(T:∀v L,pp v L->B v L):TV P f args L M B :=
 ⟨h.enters,λθ R w s=>(h.calls θ R w s).mono λe cO he=>by
  cases e with
  | returned v=>obtain⟨Γ,a,b⟩:=he;exact⟨Γ,K _ _ a,b⟩
  | panicked v=>obtain⟨Γ,a,b⟩:=he;exact⟨Γ,T _ _ a,b⟩
  | outgrown=>exact he⟩
def TV.pre{f:FuncId}{args:Array Value}{Γ : Η}{pr:Value->Η->Prop}{pp:List PanicEntry->Η->Prop}(h:TV P f args Γ pr pp)(U:F L Γ):TV P f args L pr pp :=
 ⟨h.enters,λθ R w s=>h.calls θ R w (U θ R w s)⟩
def Nb(P:Program)(N:Nat)(rs:List ResultVar)(pr:Value->Η->Prop)(pp:List PanicEntry->Η->Prop):F4:=λe env L=>match e with
 | .ret | .normal=>∀θ R w,Sat θ (L++R) w->∃vs Γ,C7 P N env L rs vs/\Sat θ (Γ++R) w/\pr (Pt vs) Γ
 | .panic ch=>∃Γ,F L Γ/\pp ch Γ
 | _=>False
def mj{fn:Func}{tmps:Array Value}{R:Ending->World->Prop}{θ:Th}{χ:Η}{u:FrameMode}(hu:u≠.run):∀(ε:List Nat) (w:World),Sat θ (E5 ε++χ) w->(∀cO,Sat θ χ cO->LeavesIn Fence.wide 0 P fn tmps R [] u cO)->LeavesInM Fence.wide 0 P fn tmps R (Qo ε) u w
 | [],w,s,h=>h w s
 | H8::ε,w,s,h=>by
  have s0:Sat θ (jC H8 (.deferred (some []))::(E5 ε++χ)) w:=s;have hb:=s0.Nr;refine⟨hu,.inl ⟨H8,{ w with heap:=w.heap.setIfInBounds H8 (.deferred none) },rfl,?_,?_⟩⟩
  .simp[Instr.takeDeferred,getObj,setObj,Sem.run,hb,bind,Sem.bind,pure]
  .have B:H8<w.heap.size:=(Array.getElem?_eq_some_iff.1 hb).1
   have s1:Sat θ (jC H8 (.deferred none)::(E5 ε++χ)) { w with heap:=w.heap.setIfInBounds H8 (.deferred none) }:=by
    refine s0.update ⟨s.1.tape,s.1.os,s.1.output,s.1.drawn⟩ (by simp[B]) ?_;intro k x hk O;simp only[Array.getElem?_setIfInBounds];rw[Ν (λe=>hk e.symm)];exact O
   exact mj hu ε _ s1.tail h
theorem Ol.c7{fn:Func}{args:τ}(hN:fn.ntmps=N)(M : args.length<=N):Ol N (Pa args 0) { tmps:=args.toArray++Array.replicate (fn.ntmps - args.toArray.size) undef,defers:=[] }:=by
 refine⟨by simp[hN];omega,?_⟩;intro t v ht;rw[sA] at ht;simp at ht;have B:t<args.length:=(List.getElem?_eq_some_iff.1 ht).1;rw[Array.getElem?_append_left (by simpa using B)];simpa using ht
def TV.body{f:FuncId}{fn:Func}{c:Code}{args:τ}{pr:Value->Η->Prop}{pp:List PanicEntry->Η->Prop}{rs:List ResultVar}(N:Nat)
  (he:Enters P f) (hf:P.funcs[f]? = some fn) (hb:fn.body=some c) (hr:fn.results=rs.toArray) (hN:fn.ntmps=N) (a6 : args.length<=N)
  (h:Α P N c (Pa args 0) L (Nb P N rs pr pp)):TV P f args.toArray L pr pp:=by
 refine⟨he,λθ R w s=>(callsIn_wide (n:=0)).1 (callsIn_of_wp_marks hf hb trivial ?_)⟩;refine wpIn_mono (h none θ R _ w (λl U=>by cases U) ⟨[],Ol.c7 hN a6,rfl,s⟩) ?_;rintro e a' cO ⟨a3,Γ,⟨ε,a5,hm,s'⟩,hex⟩
 have s1:Sat θ (E5 ε++(Γ++R)) cO:=s'.perm (by
  rw[<-aH,<-aH];exact List.perm_append_comm.append_right R)
 have a2:(∀θ R w,Sat θ (Γ++R) w->∃vs RM,C7 P N a3 Γ rs vs/\Sat θ (RM++R) w/\pr (Pt vs) RM)->LeavesInM Fence.wide 0 P fn a'.tmps (WC θ R pr pp) a'.defers .returning cO:=by
  intro a4;rw[hm];refine mj cj ε cO s1 λw₂ s₂=>?_;obtain⟨vs,RM,a7,M,B⟩:=a4 θ R w₂ s₂;exact⟨_,ue (P:=P) a5 s₂ hr a7,RM,B,M⟩
 cases e with
 | ret=>exact a2 hex
 | normal=>exact a2 hex
 | panic ch =>
  obtain⟨RM,M,B⟩:=hex;show LeavesInM Fence.wide 0 P fn a'.tmps (WC θ R pr pp) a'.defers (.panicking ch) cO;rw[hm];refine mj cj ε cO s1 λw₂ s₂=>?_;exact⟨RM,B,M θ R w₂ s₂⟩
 | exit A=>exact hex.elim
 | goto l=>exact hex.elim
 | outgrown=>exact hex.elim
def GO.panic{M:Array Oper}{cN:List Oper}{x:Operand}{t:TypeId}{v:Value}{pos:String}{af:Array Edge}(O:cq env x=some (.iface t v))(h:Ξ (.panic [{ v:=.iface t v,recovered:=false }]) env L):GO P N M (⟨none,.panic x,ty,pos,af,none⟩::cN) env L Ξ:=by
 intro r θ χ a w hr i;refine wpListIn_plain rfl λK' hK=>mu (λc hc=>by cases hc) ?_
 have B:(execOp a.eval ⟨none,.panic x,ty,pos,af,none⟩).run P w=.halt (.panic (.iface t v)) w:=by
  simp[execOp,aJ i.Pk O,Instr.panic,goPanic]
 rw[Oper.wp,B,Oper.upon_panic];exact⟨env,L,i,h⟩
structure WD (N:Nat) (env:Env) (L:Η) (θ:Th) (R:Η) (H8:List Deferred) (a:Act) (w:World):Prop where
 T3:Ol N env a
 Zt:a.defers=H8
 sat:Sat θ (L++R) w
def WD.cL{θ:Th}{R:Η}{H8:List Deferred}{a:Act}{w:World}{Γ : Η}(h:WD N env L θ R H8 a w)(U:F L Γ):WD N env Γ θ R H8 a w:=⟨h.T3,h.Zt,U θ R w h.sat⟩
end
end
section
section
variable {P:Program}{L:Η}{env:Env}{ty:TypeId}
def Ev.w5{t yt:TypeId}{x y:Operand}{k:IntKind}{a:Int}(O:cq env x=some (J a))(Y:cq env y=some (.int k 32)):Ev P L env (.binOp .shr t x y yt) ty (J (a / 4294967296)):=by
 have h:=Ev.shr (P:=P) (L:=L) (ty:=ty) (t:=t) (yt:=yt) O Y ae
 have e:a.fdiv (2 ^ min (32:Int).toNat IntKind.i64.bits)=a / 4294967296:=by
  rw[show(2:Int) ^ min (32:Int).toNat IntKind.i64.bits=4294967296 by decide];exact dM a ae
 rw[e] at h;exact h
def Ev.A2{t yt:TypeId}{x y:Operand}{k:IntKind}{a:Int}(O:cq env x=some (J a))(Y:cq env y=some (.int k 32))(h0 : -2147483648<=a)(K:a<=2147483647):Ev P L env (.binOp .shl t x y yt) ty (J (a*4294967296)):=by
 have h:=Ev.shl (P:=P) (L:=L) (ty:=ty) (t:=t) (yt:=yt) O Y ae
 have e:IntKind.i64.wrap (a*2 ^ min (32:Int).toNat IntKind.i64.bits)=a*4294967296:=by
  rw[show(2:Int) ^ min (32:Int).toNat IntKind.i64.bits=4294967296 by decide];exact wrap_i64 D D
 rw[e] at h;exact h
end
end
end Go.V
namespace Go.Proofs.YtlgpgjdggilkgaaGreatDoor
section
open Go.V
attribute [local irreducible] Α GO GP δ ms Ev Ef C0 F CB GB V.Enters
def dm(fl:List E3):ο:=(fl.filter (λf=>decide (f.Δ=5))).flatMap (·.Β)
def jM(fl:List E3):ο:=(fl.filter (λf=>decide (f.Δ=9/\f.Λ=0))).flatMap (·.Β)
def RX(d:Int):ο->ο->Int
 | [],_=>0
 | p::ps,l=>if p.1 / 4294967296=d\/11<p.1 / 4294967296 then 1 else if ∃y∈Sm l p.1,Sn p y then 8 else RX d ps (l++[p])
theorem IG(l:ο)(p:h2)(f:Int):Sm (l++[p]) f=if p.1=f then Sm l f++[p] else Sm l f:=by
 grind [Sm]
theorem qP{d:Int}{p:h2}{ps l:ο}:RX d (p::ps) l=if p.1 / 4294967296=d\/11<p.1 / 4294967296 then 1 else if ∃y∈Sm l p.1,Sn p y then 8 else RX d ps (l++[p]):=rfl
end
section
open Go.V
def Ul(fl:List E3):Prop:=∀f∈fl,(∀x∈f.Β,a0 x)/\((f.Δ=5\/(f.Δ=9/\f.Λ=0))->L7 f.Β)
theorem VX{fl:List E3}{y:h2}:y∈dm fl↔∃f∈fl,f.Δ=5/\y∈f.Β:=by
 grind [dm]
def GS{fl:List E3}(h:Ul fl):∀y∈dm fl,a0 y:=λy Y=>by
 obtain⟨f,hf,_,Y⟩:=VX.1 Y;exact(h f hf).1 y Y
theorem HE{fl:List E3}(h:Ul fl){p:h2}(hp:a0 p):rO fl p↔∃y∈Sm (dm fl) p.1,Sn p y:=by
 unfold rO;constructor
 .rintro⟨f,hf,hk,hm⟩;obtain⟨y,Y,K,T⟩:=(ze (h f hf).1 ((h f hf).2 (.inl hk)) hp).1 hm;grind [TU,VX]
 .rintro⟨y,Y,T⟩;obtain⟨Y,K⟩:=TU.1 Y;obtain⟨f,hf,hk,Y⟩:=VX.1 Y;exact⟨f,hf,hk,(ze (h f hf).1 ((h f hf).2 (.inl hk)) hp).2 aj⟩
theorem tc{d:Int}{fl:List E3}(h:Ul fl):∀(ps dn:ο),(∀p∈ps,a0 p)->L7 ps->(∀Μ∈dn,∀p∈ps,apart Μ p)->RX d ps (dm fl++dn)=Uj d fl ps
 | [],_,_,_,_=>rfl
 | p::ps,dn,K,T,h3=>by
  obtain⟨M,a2⟩:=List.pairwise_cons.1 T;have hp:=K p aj;have ih:=tc (d:=d) h ps (dn++[p]) aj a2 aj
  have e:(∃y∈Sm (dm fl++dn) p.1,Sn p y)↔rO fl p:=by
   rw[HE h hp];constructor
   .grind [TU,apart,Sn]
   .grind [TU]
  grind [qP,WA,Uj]
theorem KZ{d:Int}{fl:List E3}(h:Ul fl){ps:ο}(K:∀p∈ps,a0 p)(T:L7 ps):RX d ps (dm fl)=Uj d fl ps:=by
 have:=tc (d:=d) h ps [] K T aj
 grind
end
section
open Go.V
attribute [local irreducible] Α GO GP δ ms Ev Ef C0 F CB GB V.Enters
end
section
open Go.V
def XF(d:Int)(fl:List E3):Prop:=∀k,k<fl.length->fl[k]!.A=d*4294967296+k/\1<=fl[k]!.n/\fl[k]!.n<=1099511627776
end
section
open Go.V
attribute [local irreducible] Α GO GP δ ms Ev Ef C0 F CB GB V.Enters
def rL(k:Int)(m:A8):Prop :=
 if k=0 then m.Λ=0/\m.Β.length=0 else if k=1\/k=6 then m.to=0/\m.Β.length=0 else if k=2\/k=3\/k=8 then m.Λ≠0/\m.to≠0/\m.Β.length=0
 else if k=5 then m.Λ=0/\kj m.Β m.n else if k=7 then m.Λ≠0/\kj m.Β m.n else if k=9 then m.to≠0/\kj m.Β m.n else m.Β.length=0
theorem Mv{p q:Prop}[Decidable p][Decidable q](h:p↔q):dB p=dB q:=by
 grind
def TW(k:Nat)(Δ:Int)(m:A8):Prop:=(0<=m.a1/\m.a1<k)/\(1<=m.n/\m.n<=1099511627776)/\Qd m.Λ/\Qd m.to/\m.Λ≠m.to/\rL Δ m
theorem sT{k:Nat}{Δ:Int}{m:A8}(h:0<=Δ/\Δ<=10):TW k Δ m↔EI k (gU Δ) m/\(Δ≠4->Δ≠10->iw Δ m):=by
 have e:gU Δ=true↔Δ=5\/Δ=7\/Δ=9:=by unfold gU;rw[dH,decide_eq_true_iff]
 have hp:=@ul m.Β m.n;unfold TW EI rP Qd;by_cases h5:Δ=5
 .grind [iw,rL]
 by_cases h7:Δ=7
 .grind [iw,rL]
 by_cases h9:Δ=9
 .grind [iw,rL]
 rw[Ν aj];unfold iw rL;by_cases h0:Δ=0
 .grind
 rw[Ν h0,Ν (show ¬(Δ=0\/Δ=5) from λq=>q.elim h0 h5)];by_cases K:Δ=1\/Δ=6
 .rw[Χ K,Χ K];constructor
  .rintro⟨a,b,c,Μ,f,g1,g2⟩;exact⟨⟨⟨a,b,f,D⟩,g2⟩,λ_ _=>g1⟩
  .rintro⟨⟨⟨a,b,f,c⟩,g2⟩,g1⟩;exact⟨a,b,D,D,f,g1 D D,g2⟩
 grind
def nH(rules:List UN)(s:D6):Prop:=if s.Δ=4 then HC rules s.K9 s.OI s.fe else if s.Δ=10 then JU s else s.K9 = -1/\s.OI=0
theorem WE{c:B0}{now:Int}{s:D6}:gC c now s↔(0<=s.Δ/\s.Δ<=10)/\Qd s.RV/\(now<=s.E/\s.E<=1099511627776)/\(1<=s.fe.length/\s.fe.length<=64)/\(∀m∈s.fe,TW c.B5.length s.Δ m)/\nH c.rules s:=by
 unfold gC ng nH;constructor
 .grind [sT]
 grind [sT]
end
section
open Go.V
structure SI (Δ:Int) (m:A8):Prop where
 g:Qt m
 imp:Δ=5->m.Λ=0
 st:Δ=5\/Δ=7\/Δ=9->kj m.Β m.n
theorem Gj{m:A8}{Δ:Int}{k:Nat}(hk:0<=Δ/\Δ<=10)(h:TW k Δ m):SI Δ m:=by
 obtain⟨K,T⟩:=(sT hk).1 h;obtain⟨h3,h4⟩:=K;have e:gU Δ=true↔Δ=5\/Δ=7\/Δ=9:=by unfold gU;rw[dH,decide_eq_true_iff]
 refine⟨⟨h3.2.1,h3.2.2.1,?_⟩,λh5=>?_,λhs=>?_⟩
 .grind
 .grind [iw]
 grind [ul]
theorem si(fl:List E3)(f:E3):dm (fl++[f])=dm fl++(if f.Δ=5 then f.Β else[]):=by
 grind [dm]
theorem rZ(fl:List E3)(f:E3):jM (fl++[f])=jM fl++(if f.Δ=9/\f.Λ=0 then f.Β else[]):=by
 grind [jM]
structure SY (d:Int) (fl:List E3) (k:Nat) (W:Wk):Prop where
 g:Ry d fl k W
 fa:Ul (fl++W.Κ)
 fn:XF d (fl++W.Κ)
 il:(dm (fl++W.Κ)).length<=k
 rl:(jM (fl++W.Κ)).length<=k
theorem uF{hl:Int->Bool}{s:D6}{W:Wk}{m:A8}(hm:SI s.Δ m)(h:s.Δ=5\/(s.Δ=9/\m.Λ=0)):PU hl s W m=m.Β:=by
 have h0:m.Λ=0:=by
  rcases h with h|h
  .exact hm.imp h
  .exact h.2
 grind [PU]
theorem vz{d:Int}{fl:List E3}{hl:Int->Bool}{s:D6}{W:Wk}{k:Nat}{m:A8}(a2:0<=d)(h:SY d fl k W)(hm:SI s.Δ m)(hk:k+m.Β.length<=2000)(he:(cg d fl hl s W m).1=0):SY d fl (k+m.Β.length+1) (cg d fl hl s W m).2:=by
 obtain⟨g1,g2⟩:=nx a2 h.g hm.g hk he
 have B:N4 d (fl++W.Κ) s W m=0:=by
  unfold cg at he;by_cases K:N4 d (fl++W.Κ) s W m≠0
  .grind
  .omega
 obtain⟨p1,_⟩:=Ha (hl:=hl) h.g hm.g hk B;have il:=h.il;have rl:=h.rl;refine⟨g1,?_,?_,?_,?_⟩
 .rw[g2,<-aH];intro f hf;rcases J8 hf with hf|hf
  .exact h.fa f hf
  .rw[F6 hf];refine⟨p1,λhq=>?_⟩;show L7 (PU hl s W m);rw[uF hm hq];exact(hm.st (by rcases hq with hq|hq;exact .inl hq;exact .inr (.inr hq.1))).2.1
 .rw[g2,<-aH];intro j hj;rw[ay,aX] at hj;by_cases M:j<(fl++W.Κ).length
  .have:=h.fn j M
   grind
  .obtain rfl:j=(fl++W.Κ).length:=D;rw[D7 aj,dT D];simp only[Nat.sub_self,List.getElem_cons_zero];refine⟨?_,hm.g.n⟩;show eZ d fl.length W=_;grind [eZ]
 .grind [si,gF,uF]
 grind [rZ,gF,uF]
def ia(a i:Int):List A8->Nat
 | []=>0
 | m::Q=>((if m.to=a/\m.a1=i then 1 else 0)+(if m.Λ=a/\m.a1=i then m.Β.length else 0))+ia a i Q
def qj(a i:Int):∀x y:List A8,ia a i (x++y)=ia a i x+ia a i y
 | [],y=>by show ia a i y=0+ia a i y;omega
 | m::x,y=>by
  have:=qj a i x y
  show((if m.to=a/\m.a1=i then 1 else 0)+(if m.Λ=a/\m.a1=i then m.Β.length else 0))+ia a i (x++y)=((if m.to=a/\m.a1=i then 1 else 0)+(if m.Λ=a/\m.a1=i then m.Β.length else 0))+ia a i x+ia a i y;omega
theorem Jj{d:Int}{fl:List E3}{hl:Int->Bool}{W:Wk}{k:Nat}{m:A8}(h:Ry d fl k W)(hm:Qt m)(a i:Int):(NI hl W m a i).length<=(W.ν a i).length+(if m.Λ=a/\m.a1=i then m.Β.length else 0):=by
 unfold NI;by_cases h0:m.Λ=0
 .grind
 rw[Ν h0];unfold Qf;by_cases ha:a=m.Λ/\i=m.a1
 case neg =>
  grind
 rw[Χ ha,Χ aj];obtain⟨rfl,rfl⟩:=ha;unfold xr;by_cases hp:m.Β=[]
 .rw[Χ hp];exact aO (oZ _ _ _).2 D
 .rw[Ν hp];have hs:=h.ν m.Λ m.a1;exact(Cj (⟨an _,hs.ok,hs.Uk⟩:Q3 (W.ν m.Λ m.a1).length _ _) hm.C8).len
theorem Hc{d:Int}{fl:List E3}{hl:Int->Bool}{s:D6}{W:Wk}{k:Nat}{m:A8}(h:Ry d fl k W)(hm:Qt m)(he:(cg d fl hl s W m).1=0)(a i:Int):((cg d fl hl s W m).2.ν a i).length<=(W.ν a i).length+ia a i [m]:=by
 have h9:=Jj (hl:=hl) h hm a i;have e1:ia a i [m]=((if m.to=a/\m.a1=i then 1 else 0)+(if m.Λ=a/\m.a1=i then m.Β.length else 0))+0:=rfl;rw[e1];unfold cg at he ⊢;by_cases K:N4 d (fl++W.Κ) s W m≠0
 .grind
 rw[Ν K] at he ⊢;by_cases T:du W m>1099511627776
 .grind
 rw[Ν T] at he ⊢;by_cases h3:m.to=0
 .rw[Χ h3];grind
 rw[Ν h3] at he ⊢;by_cases h4:4096<=(NI hl W m m.to m.a1).length
 .grind
 rw[Ν h4];grind [Qf,qH]
structure SZ (k:Nat) (S:Ρ):Prop where
 g:Sk k S
 fa:Ul S.Κ
 fn:XF S.D8 S.Κ
 il:(dm S.Κ).length<=k
 rl:(jM S.Κ).length<=k
def xj{k:Nat}{S:Ρ}(h:SZ k S):SY S.D8 S.Κ k (ND S):=by
 have e:S.Κ++(ND S).Κ=S.Κ:=aI _;refine⟨tM h.g,?_,?_,?_,?_⟩
 .rw[e];exact h.fa
 .rw[e];exact h.fn
 .rw[e];exact h.il
 .rw[e];exact h.rl
def zL{d:Int}{fl:List E3}{hl:Int->Bool}{s:D6}(M:0<=d):∀{Q:List A8} {W:Wk} {k:Nat},SY d fl k W->(∀m∈Q,SI s.Δ m)->k+C5 Q<=2000->(cR d fl hl s W Q).1=0->SY d fl (k+C5 Q) (cR d fl hl s W Q).2/\∀a i,((cR d fl hl s W Q).2.ν a i).length<=(W.ν a i).length+ia a i Q
 | [],_,_,h,_,_,_=>⟨h,λ_ _=>an _⟩
 | m::Q,W,k,h,hm,hk,he=>by
  have e:cR d fl hl s W (m::Q)=if(cg d fl hl s W m).1=0 then cR d fl hl s (cg d fl hl s W m).2 Q else((cg d fl hl s W m).1,W):=rfl;have ek:C5 (m::Q)=(m.Β.length+1)+C5 Q:=rfl;rw[e] at he ⊢;by_cases K:(cg d fl hl s W m).1=0
  .rw[Χ K] at he ⊢;have B:=hm m aA;obtain⟨i1,i2⟩:=zL M (Q:=Q) (vz M h B D K) (λx O=>hm x (az _ O)) D he;refine⟨by rw[ek,<-dh,<-dh];exact i1,λa i=>?_⟩;have g1:=i2 a i;have g2:=Hc h.g B.g K a i;have g3:ia a i (m::Q)=ia a i [m]+ia a i Q:=qj a i [m] Q;omega
  .rw[Ν K] at he;exact hD he K
theorem mF{c:B0}{now:Int}{s:D6}(h:gC c now s):∀m∈s.fe,SI s.Δ m:=by grind [Gj,WE]
theorem CT{k:Nat}{S:Ρ}{s:D6}(h:SZ k S)(hk:k+C5 s.fe<=2000):SZ (k+C5 s.fe) (bM S s)/\∀a i,((bM S s).ν a i).length<=(S.ν a i).length+ia a i s.fe:=by
 have g0:=Lk h.g hk;have il:=h.il;have rl:=h.rl;by_cases he:(E2 S s).1=0
 case neg =>
  have e:bM S s=S:=Ν he;rw[e] at g0 ⊢;exact⟨⟨g0,h.fa,h.fn,D,D⟩,λa i=>D⟩
 have e:bM S s=fC S s:=Χ he;rw[e] at g0 ⊢;by_cases K:65536<=S.D9.length
 .grind [E2]
 by_cases T:gC S.π S.now s
 case neg =>
  grind [E2]
 have e:E2 S s=cR S.D8 S.Κ (fV S.π) (s.at (cT S)) (ND S) s.fe:=by unfold E2;rw[Ν K,Ν (λq=>q T)]
 rw[e] at he;obtain⟨g1,g2⟩:=zL (Q:=s.fe) (s:=s.at (cT S)) h.g.D8.1 (xj h) (mF T) hk he;rw[<-e] at g1 g2;exact⟨⟨g0,g1.fa,g1.fn,g1.il,g1.rl⟩,g2⟩
end
end Go.Proofs.YtlgpgjdggilkgaaGreatDoor
namespace Go.V
section
variable {P:Program}{N:Nat}{ops:Array Oper}{done:List Nat}{wk:List K4}{E8:List PE}{env:Env}{L:Η}{Ξ:F4}
def GP.VZ{φ:Prop}(h:∀θ R w,Sat θ (L++R) w->φ)(k:φ->GP P N ops done wk E8 env L Ξ):GP P N ops done wk E8 env L Ξ:=λhK hp hs B θ χ a w S i M a2=>let ⟨_,_,_,s⟩:=i;k (h θ _ w s) hK hp hs B θ χ a w S i M a2
def δ.VZ{s:K4}{B:Option Tmp}{op:Op}{ty:TypeId}{φ:Prop}(h:∀θ R w,Sat θ (L++R) w->φ)(k:φ->δ P N ops done s wk B op ty E8 env L Ξ):δ P N ops done s wk B op ty E8 env L Ξ:=λpos af g K T=>GP.VZ h (λhφ=>k hφ pos af g K T)
