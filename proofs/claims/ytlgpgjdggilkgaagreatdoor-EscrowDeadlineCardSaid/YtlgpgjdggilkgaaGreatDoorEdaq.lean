/- Lemmas. -/
import Derived.Test.YtlgpgjdggilkgaaGreatDoorEdap
import Derived.Defers
import Derived.Recover
set_option linter.all false
namespace Go.Proofs.YtlgpgjdggilkgaaGreatDoor
section
open Go.V
theorem qC:∀{Δ out:π},∀z∈Δ.foldl bF out,∃y∈out++Δ,z.1=y.1
 | [],out,z,hz=>ah
 | x::Δ,out,z,hz=>by
  obtain⟨y,U,e⟩:=qC (Δ:=Δ) (out:=bF out x) z hz;rcases J4 U with U|U
  .have h:∀w∈bF out x,∃v∈out++x::Δ,w.1=v.1:=by
    intro w hw;unfold bF at hw;split at hw
    .grind
    .grind
   grind
  grind
def om:∀(Δ out:π),Δ.foldl bF out=(Δ.filter (λx=>decide (x.2.2≠0))).foldl bF out
 | [],_=>rfl
 | x::Δ,out=>by
  by_cases h:x.2.2=0
  .rw[List.filter_cons_of_neg (by simpa using h)];have e:bF out x=out:=Ω h;show Δ.foldl bF (bF out x)=_;rw[e];exact om Δ out
  .rw[dD (by simpa using h)];exact om Δ (bF out x)
theorem kV:∀{Δ out:π},L5 (out++Δ)->(∀z∈out++Δ,1<=z.2.2)->L5 (Δ.foldl bF out)
 | [],out,h,_=>ah
 | x::Δ,out,h,hn=>by
  have M:=hn x ah;have a9:out++x::Δ=(out++[x])++Δ:=by rw[aF];rfl
  by_cases hc:out.length≠0/\lK x out[out.length - 1]!
  case neg =>
   have e:bF out x=out++[x]:=by unfold bF;rw[Ο D,Ο hc]
   show L5 (Δ.foldl bF (bF out x));rw[e];rw[a9] at h hn;exact kV h hn
  obtain⟨T,hk⟩:=hc;have e:bF out x=out.set (out.length - 1) (out[out.length - 1]!.1,out[out.length - 1]!.2.1,out[out.length - 1]!.2.2+x.2.2):=by unfold bF;rw[Ο D,Ω ⟨T,hk⟩]
  rcases List.eq_nil_or_concat out with rfl|⟨A,b,rfl⟩
  .grind
  rw[List.concat_eq_append] at *
  have eb:(A++[b])[(A++[b]).length - 1]! = b:=by
   rw[E7 cg];simp
  rw[eb] at e hk
  have es:(A++[b]).set ((A++[b]).length - 1) (b.1,b.2.1,b.2.2+x.2.2)=A++[(b.1,b.2.1,b.2.2+x.2.2)]:=by
   rw[aA,bh,Nat.add_sub_cancel,fB _ _ D];simp
  rw[es] at e;show L5 (Δ.foldl bF (bF (A++[b]) x));rw[e];have b0:=Ti.1 hk;have hb:=hn b ah;have e3:(A++[b])++x::Δ=A++(b::x::Δ):=by rw[aF];rfl
  rw[e3] at h hn;obtain⟨J,a2,a3⟩:=List.pairwise_append.1 h;obtain⟨a4,a5⟩:=List.pairwise_cons.1 a2;obtain⟨a6,a7⟩:=List.pairwise_cons.1 a5;refine kV ?_ ?_
  .rw[show(A++[(b.1,b.2.1,b.2.2+x.2.2)])++Δ=A++((b.1,b.2.1,b.2.2+x.2.2)::Δ) by grind];refine List.pairwise_append.2 ⟨J,List.pairwise_cons.2 ⟨λz hz=>?_,a7⟩,λz hz w hw=>?_⟩
   .have g1:=a4 z (az _ hz);have g2:=a6 z hz;have g3:=hn z ah;unfold apart at g1 g2 ⊢;grind
   .rcases L7 hw with rfl|hw
    .have g1:=a3 z hz b ah;have g2:=a3 z hz x ah;have g3:=hn z ah;unfold apart at g1 g2 ⊢;dsimp only;omega
    grind
  .intro z hz;grind
def uP{α β γ:Type}(f:γ->β->γ)(g:α->List β):∀(s:List α) (out:γ),(s.flatMap g).foldl f out=s.foldl (λo y=>(g y).foldl f o) out
 | [],_=>rfl
 | y::s,out=>by
  rw[aS,List.foldl_append];exact uP f g s _
theorem Aa:∀(set l:π),set.foldl M6 l=l.flatMap (λy=>set.foldl M6 [y])
 | [],l=>by
  show l=l.flatMap (λy=>[y]);induction l with
  | nil=>rfl
  | cons y l ih=>grind
 | x::set,l=>by
  have e1:∀l,(x::set).foldl M6 l=(M6 l x).flatMap (λy=>set.foldl M6 [y]):=λl=>Aa set (M6 l x);rw[e1];induction l with
  | nil=>rfl
  | cons y l ih =>
   have e2:M6 (y::l) x=M6 [y] x++M6 l x:=by
    unfold M6;rw[aS,aS];simp
   rw[e2,dJ,ih,aS];congr 1;exact(e1 [y]).symm
def xK(s set:π):jg s set=(set.foldl M6 s).foldl bF []:=by
 rw[Aa,uP];rfl
theorem Ho:∀{set l:π},(∀x∈set,a0 x)->(∀y∈l,a0 y)->L5 l->(∀y∈set.foldl M6 l,a0 y/\∃w∈l,y.1=w.1)/\L5 (set.foldl M6 l)/\(set.foldl M6 l).length<=l.length+set.length
 | [],l,_,T,ha=>ah
 | x::set,l,hs,T,ha=>by
  have M:=hs x au;obtain⟨I,Q⟩:=mC M T ha;obtain⟨i1,i2,i3⟩:=Ho (set:=set) (l:=M6 l x) (λz hz=>hs z (az _ hz)) (vg M T) I;refine⟨λy U=>?_,i2,?_⟩
  .obtain⟨g1,w,hw,e⟩:=i1 y U;obtain⟨v,hv,_,e2,_⟩:=rq M T hw;exact⟨g1,v,hv,e.trans e2⟩
  .rw[aL];show(set.foldl M6 (M6 l x)).length<=_;omega
structure QB (k:Nat) (r:Int) (l:π):Prop where
 len:l.length<=k
 ok:∀x∈l,a0 x/\x.1<r
 TS:L5 l
def QB.D3{k:Nat}{r:Int}{l:π}(h:QB k r l):∀x∈l,a0 x:=λx M=>(h.ok x M).1
def QB.mono{k k' : Nat}{r A : Int}{l:π}(h:QB k r l)(hk:k<=k')(hi:r<=A):QB k' A l:=⟨aO h.len hk,λx M=>⟨(h.ok x M).1,by have:=(h.ok x M).2;omega⟩,h.TS⟩
theorem Cf{k:Nat}{r:Int}{l ps:π}(h:QB k r l)(hp:∀x∈ps,a0 x):QB (k+ps.length) r (jg l ps):=by
 obtain⟨c1,c2,c3⟩:=Ho hp h.D3 h.TS;have T:=h.len;rw[xK];refine⟨?_,λx M=>?_,kV c2 (λz hz=>(c1 z hz).1.2.2.2.1)⟩
 .grind [iV]
 .obtain⟨y,U,e⟩:=qC (Δ:=ps.foldl M6 l) (out:=[]) x M;rw[av] at U;obtain⟨_,w,hw,e2⟩:=c1 y U;have:=(h.ok w hw).2
  refine⟨lD cg (λz hz=>(c1 z hz).1.w) x M,?_⟩;omega
theorem KC{mixed:Bool}{k:Nat}{r n:Int}{l:π}(h:QB k r l)(hk:l.length<=4096)(h0:0<=n)(I:n<=aW l):QB k r (jF mixed l n):=by
 have hb:=xN mixed l n h.D3 h0 I;have J:=(He h.D3 hb).2;refine⟨aO (oU _ _ _).2 h.len,λx M=>⟨J x M,?_⟩,?_⟩
 .obtain⟨y,U,e⟩:=qC (Δ:=(List.range l.length).map (Rr l (Q5 mixed l n))) (out:=[]) x M;rw[av] at U;obtain⟨j,hj,rfl⟩:=H8 U;have hj:=List.mem_range.1 hj;have:=(h.ok _ (bI hj)).2
  rw[e];exact this
 .show L5 (((List.range l.length).map (Rr l (Q5 mixed l n))).foldl bF []);rw[om]
  have a2:L5 ((List.range l.length).map (Rr l (Q5 mixed l n))):=by
   unfold L5;rw[List.pairwise_map];refine List.Pairwise.imp_of_mem ?_ List.pairwise_lt_range;intro i j hi hj A;have hi:=List.mem_range.1 hi;have hj:=List.mem_range.1 hj;have ha:=List.pairwise_iff_getElem.1 h.TS i j hi hj A;rw[<-E7 hi,<-E7 hj] at ha;have b1:=hb i hi;have b2:=hb j hj;unfold apart at ha ⊢;simp only[Rr,VY,Vm];omega
  refine kV ?_ ?_
  .rw[av];exact a2.filter _
  grind [Rr,Vm]
theorem Mv{k:Nat}{r n:Int}{l:π}(h:QB k r l)(A:0<=r)(hn:1<=n/\n<=1099511627776):QB (k+1) (r+1) (bF l (r,0,n)):=by
 rw[EE h.D3 hn.1];have T:=h.len;refine⟨by rw[aA,bh];omega,λx M=>?_,List.pairwise_append.2 ⟨h.TS,dC _ _,λy U w hw=>?_⟩⟩
 .rcases J4 M with M|M
  .have:=h.ok x M
   grind
  .rw[GO M];refine⟨⟨A,bE _,ah,hn.1,ah⟩,D⟩
 .rw[GO hw];have:=(h.ok y U).2
  unfold apart;omega
def Pw(hy:Int->Bool)(s:D7)(W:Wk)(m:B1):π:=if m.Ν=0 then(if s.Ζ=5\/s.Ζ=9 then m.Γ else[]) else if m.Γ=[] then nc (hy m.a1) (W.ξ m.Ν m.a1) m.n else m.Γ
def xw(hy:Int->Bool)(W:Wk)(m:B1):π:=if m.Γ=[] then jF (hy m.a1) (W.ξ m.Ν m.a1) m.n else jg (W.ξ m.Ν m.a1) m.Γ
def Np(hy:Int->Bool)(W:Wk)(m:B1):Int->Int->π:=if m.Ν=0 then W.ξ else PS W.ξ m.Ν m.a1 (xw hy W m)
def NL(d:Int)(fl:List E3)(s:D7)(W:Wk)(m:B1):Int :=
 if m.Ν=0 then(if s.Ζ=5 then TR d fl m.Γ else if s.Ζ=9 then Zb fl m.a1 m.Γ else 0)
 else if m.Γ=[] then(if aW (W.ξ m.Ν m.a1)<m.n then 10 else 0) else if kC m.Γ (W.ξ m.Ν m.a1) then 0 else 10
def gH(d:Int)(nf:Nat)(hy:Int->Bool)(s:D7)(W:Wk)(m:B1):E3:=⟨fc d nf W,s.r,s.Ζ,s.B,s.Rt,m.Ν,m.to,m.a1,m.n,Pw hy s W m,lc s W m⟩
def ce(d:Int)(fl:List E3)(hy:Int->Bool)(s:D7)(W:Wk)(m:B1):Int×Wk :=
 if NL d (fl++W.Μ) s W m≠0 then(NL d (fl++W.Μ) s W m,W)
 else if dt W m>1099511627776 then(4,W)
 else if m.to=0 then(0,⟨Np hy W m,Pr W.iL m.a1 (dt W m),W.Μ++[gH d fl.length hy s W m],W.NW++[fc d fl.length W]⟩)
 else if 4096<=(Np hy W m m.to m.a1).length then(4,W)
 else(0,⟨PS (Np hy W m) m.to m.a1 (bF (Np hy W m m.to m.a1) (fc d fl.length W,0,m.n)),Pr W.iL m.a1 (dt W m),W.Μ++[gH d fl.length hy s W m],W.NW⟩)
def V8(fl:List E3):Prop:=∀f∈fl,(∀x∈f.Γ,a0 x)/\f.Γ.length<=2047
structure Q8 (d:Int) (fl:List E3) (k:Nat) (W:Wk):Prop where
 ξ:∀a i,QB k (fc d fl.length W) (W.ξ a i)
 iL:∀i,-(((fl.length:Int)+W.Μ.length)*1099511627776)<=W.iL i/\W.iL i<=1099511627776
 NW:W.NW.length<=W.Μ.length
 Μ:V8 W.Μ
structure P6 (m:B1):Prop where
 n:1<=m.n/\m.n<=1099511627776
 ne:m.Ν≠m.to
 Γ:m.Γ=[]\/kf m.Γ m.n
theorem P6.D3{m:B1}(h:P6 m):∀x∈m.Γ,a0 x:=λx M=>by
 rcases h.Γ with q|q
 .grind
 .exact q.1.1 x M
theorem uJ{d:Int}{fl:List E3}{hy:Int->Bool}{s:D7}{W:Wk}{k:Nat}{m:B1}(h:Q8 d fl k W)(hm:P6 m)(hk:k<=2000)(he:NL d (fl++W.Μ) s W m=0)(a i:Int):QB (k+m.Γ.length) (fc d fl.length W) (Np hy W m a i):=by
 unfold Np;unfold NL at he;by_cases h0:m.Ν=0
 .rw[Ω h0];exact(h.ξ a i).mono D D
 rw[Ο h0] at he ⊢;unfold PS;by_cases ha:a=m.Ν/\i=m.a1
 case neg =>
  rw[Ο ha];exact(h.ξ a i).mono D D
 rw[Ω ha];have hs:=h.ξ m.Ν m.a1;have T:=hs.len;have hn:=hm.n;unfold xw;by_cases hp:m.Γ=[]
 .grind [KC]
 .rw[Ο hp];exact Cf hs hm.D3
theorem GS{d:Int}{fl:List E3}{hy:Int->Bool}{s:D7}{W:Wk}{k:Nat}{m:B1}(h:Q8 d fl k W)(hm:P6 m)(hk:k+m.Γ.length<=2000)(he:NL d (fl++W.Μ) s W m=0):(∀x∈Pw hy s W m,a0 x)/\(Pw hy s W m).length<=2047:=by
 have hs:=h.ξ m.Ν m.a1;have T:=hs.len;have hn:=hm.n;unfold NL at he;unfold Pw;by_cases h0:m.Ν=0
 .rw[Ω h0];split
  .exact⟨hm.D3,D⟩
  grind
 rw[Ο h0] at he ⊢;by_cases hp:m.Γ=[]
 .rw[Ω hp] at he ⊢;by_cases hq:aW (W.ξ m.Ν m.a1)<m.n
  .omega
  .exact⟨(He hs.D3 (xN _ _ _ hs.D3 D D)).1,aO (oU _ _ _).1 D⟩
 .rw[Ο hp];exact⟨hm.D3,D⟩
theorem nu{d:Int}{fl:List E3}{hy:Int->Bool}{s:D7}{W:Wk}{k:Nat}{m:B1}(a5:0<=d)(h:Q8 d fl k W)(hm:P6 m)(hk:k+m.Γ.length<=2000)(he:(ce d fl hy s W m).1=0):Q8 d fl (k+m.Γ.length+1) (ce d fl hy s W m).2/\(ce d fl hy s W m).2.Μ=W.Μ++[gH d fl.length hy s W m]:=by
 unfold ce at he ⊢;by_cases I:NL d (fl++W.Μ) s W m≠0
 .grind
 rw[Ο I] at he ⊢;have a2 : NL d (fl++W.Μ) s W m=0:=D;by_cases Q:dt W m>1099511627776
 .grind
 rw[Ο Q] at he ⊢;have hS:=λa i=>uJ (hy:=hy) h hm D a2 a i;have hP:=GS (hy:=hy) h hm hk a2;have hn:=hm.n
 have a3:V8 (W.Μ++[gH d fl.length hy s W m]):=λf hf=>by
  rcases J4 hf with hf|hf
  .exact h.Μ f hf
  .rw[GO hf];exact hP
 have a4:∀{W2:Wk},W2.Μ=W.Μ++[gH d fl.length hy s W m]->fc d fl.length W2=fc d fl.length W+1:=by grind [fc]
 have J:0<=fc d fl.length W:=by unfold fc;omega
 have A:∀i,-(((fl.length:Int)+(W.Μ++[gH d fl.length hy s W m]).length)*1099511627776)<=Pr W.iL m.a1 (dt W m) i/\Pr W.iL m.a1 (dt W m) i<=1099511627776:=λi=>by
  rw[aA,bh];unfold Pr;have t1:=h.iL i;grind [dt]
 by_cases h3:m.to=0
 .rw[Ω h3];refine⟨⟨λa i=>?_,A,?_,a3⟩,rfl⟩
  .rw[a4 rfl];exact(hS a i).mono D D
  .have:=h.NW
   grind
 rw[Ο h3] at he ⊢;by_cases h4:4096<=(Np hy W m m.to m.a1).length
 .grind
 rw[Ο h4];refine⟨⟨λa i=>?_,A,?_,a3⟩,rfl⟩
 .rw[a4 rfl];dsimp only;unfold PS;split
  .exact Mv ah J hn
  .exact(hS a i).mono D D
 .have:=h.NW
  grind
end
section
open Go.V
attribute [local irreducible] Β Y GP δ vi Z Ef C0 E CB GB V.Enters
theorem IZ{d:Int}{fl:List E3}{s:D7}{W:Wk}{m:B1}{mixed:Bool}{k:Nat}{r:Int}(hw:QB k r (W.ξ m.Ν m.a1))(hm:P6 m)(h0:¬m.Ν=0)(he:NL d fl s W m=0):aW (if m.Γ=[] then jF mixed (W.ξ m.Ν m.a1) m.n else jg (W.ξ m.Ν m.a1) m.Γ)=aW (W.ξ m.Ν m.a1) - m.n:=by
 have hn:=hm.n;unfold NL at he;rw[Ο h0] at he;by_cases hp:m.Γ=[]
 .rw[Ω hp] at he ⊢;by_cases hq:aW (W.ξ m.Ν m.a1)<m.n
  .omega
  .exact Gu hw.D3 D D
 .rw[Ο hp] at he ⊢;by_cases hq:kC m.Γ (W.ξ m.Ν m.a1)
  .rcases hm.Γ with g|⟨_,g2,g3⟩
   .grind
   .rw[Dg hq hw.TS D,g2]
  grind
def C6:List B1->Nat
 | []=>0
 | m::O=>(m.Γ.length+1)+C6 O
theorem mG:∀(a b:List B1),C6 (a++b)=C6 a+C6 b
 | [],b=>by show C6 b=0+C6 b;omega
 | m::a,b=>by
  have:=mG a b
  show(m.Γ.length+1)+C6 (a++b)=(m.Γ.length+1)+C6 a+C6 b;omega
def IA{O:List B1}{i:Nat}(h:i<O.length):C6 (O.take (i+1))=C6 (O.take i)+(O[i]!.Γ.length+1):=by
 rw[aB h,mG,E7 h];rfl
theorem LL(O:List B1)(i:Nat):C6 (O.take i)<=C6 O:=by
 grind [mG,cL]
def cQ(d:Int)(fl:List E3)(hy:Int->Bool)(s:D7)(W:Wk):List B1->Int×Wk
 | []=>(0,W)
 | m::O=>if(ce d fl hy s W m).1=0 then cQ d fl hy s (ce d fl hy s W m).2 O else((ce d fl hy s W m).1,W)
noncomputable def E2(S:Τ)(s:D7):Int×Wk :=
 if 65536<=S.Ev.length then(4,Nk S)
 else if ¬gD S.υ S.now s then(1,Nk S)
 else cQ S.D9 S.Μ (fW S.υ) (s.at (cS S)) (Nk S) s.gN
noncomputable def fF(S:Τ)(s:D7):Τ:={ S with ξ:=(E2 S s).2.ξ,iL:=(E2 S s).2.iL,Ev:=S.Ev++[s.at (cS S)],Μ:=S.Μ++(E2 S s).2.Μ }
noncomputable def bN(S:Τ)(s:D7):Τ:=if(E2 S s).1=0 then fF S s else S
noncomputable def UP(S:Τ)(s:D7):Int:=if(E2 S s).1=0 then cS S else 0
structure RM (k:Nat) (S:Τ):Prop where
 D9:0<=S.D9/\S.D9<12
 Ev:S.Ev.length<=65536
 Μ:S.Μ.length<=64*S.Ev.length
 ξ:∀a i,QB k (S.D9*4294967296+S.Μ.length) (S.ξ a i)
 iL:∀i,-((S.Μ.length:Int)*1099511627776)<=S.iL i/\S.iL i<=1099511627776
 fl:V8 S.Μ
def tN{k:Nat}{S:Τ}(h:RM k S):Q8 S.D9 S.Μ (k+C6 ([]:List B1)) (Nk S):=by
 have e:fc S.D9 S.Μ.length (Nk S)=S.D9*4294967296+S.Μ.length:=by
  show S.D9*4294967296+(S.Μ.length:Int)+((0:Nat):Int)=_;omega
 refine⟨λa i=>by rw[e];exact h.ξ a i,λi=>?_,ax _,λf hf=>by cases hf⟩;have:=h.iL i
 show -(((S.Μ.length:Int)+((0:Nat):Int))*1099511627776)<=S.iL i/\S.iL i<=1099511627776;omega
def qV{d:Int}{fl:List E3}{hy:Int->Bool}{s:D7}(A:0<=d):∀{O:List B1} {W:Wk} {k:Nat},Q8 d fl k W->(∀m∈O,P6 m)->k+C6 O<=2000->(cQ d fl hy s W O).1=0->Q8 d fl (k+C6 O) (cQ d fl hy s W O).2/\(cQ d fl hy s W O).2.Μ.length=W.Μ.length+O.length
 | [],_,_,h,_,_,_=>⟨h,rfl⟩
 | m::O,W,k,h,hm,hk,he=>by
  have e:cQ d fl hy s W (m::O)=if(ce d fl hy s W m).1=0 then cQ d fl hy s (ce d fl hy s W m).2 O else((ce d fl hy s W m).1,W):=rfl;have ek:C6 (m::O)=(m.Γ.length+1)+C6 O:=rfl;rw[e] at he ⊢;by_cases I:(ce d fl hy s W m).1=0
  .rw[Ω I] at he ⊢;obtain⟨g1,g2⟩:=nu A h (hm m au) D I;obtain⟨i1,i2⟩:=qV A (O:=O) g1 (λx M=>hm x (az _ M)) D he;refine⟨by rw[ek,<-dc,<-dc];exact i1,?_⟩;rw[i2,g2,aA,bh,aL];omega
  .rw[Ο I] at he;exact iJ he I
def GQ{S:Τ}{s:D7}(hp:gD S.υ S.now s)(h0:0<=S.now):0<=(fF S s).now:=by
 unfold Τ.now fF;simp only[List.getLast?_append,List.getLast?_singleton];have:=hp.2.2.1
 show 0<=s.B;omega
theorem px{c:B4}{now:Int}{s:D7}(h:gD c now s):∀m∈s.gN,P6 m:=λm hm=>by
 have A:=h.2.2.2.2.1 m hm;refine⟨A.1.2.1,A.1.2.2.1,?_⟩;have h3:=A.2;grind
theorem KQ{k:Nat}{S:Τ}{s:D7}(h:RM k S)(hk:k+C6 s.gN<=2000):RM (k+C6 s.gN) (bN S s):=by
 unfold bN;by_cases he:(E2 S s).1=0
 case neg =>
  rw[Ο he];exact⟨h.D9,h.Ev,h.Μ,λa i=>(h.ξ a i).mono D D,h.iL,h.fl⟩
 rw[Ω he];have a3:=h.Ev;have a2:=h.Μ;by_cases I:65536<=S.Ev.length
 .grind [E2]
 by_cases Q:gD S.υ S.now s
 case neg =>
  grind [E2]
 have e:E2 S s=cQ S.D9 S.Μ (fW S.υ) (s.at (cS S)) (Nk S) s.gN:=by unfold E2;rw[Ο I,Ο (λq=>q Q)]
 have J:=Q.2.2.2.1;rw[e] at he;obtain⟨g1,g2⟩:=qV h.D9.1 (tN h) (px Q) (by show k+0+_<=_;omega) he;unfold fF;rw[e];have e0:(Nk S).Μ.length=0:=rfl;rw[e0,dv] at g2
 have A:fc S.D9 S.Μ.length (cQ S.D9 S.Μ (fW S.υ) (s.at (cS S)) (Nk S) s.gN).2=S.D9*4294967296+((S.Μ++(cQ S.D9 S.Μ (fW S.υ) (s.at (cS S)) (Nk S) s.gN).2.Μ).length:Int):=by
  unfold fc;rw[aA];omega
 refine⟨h.D9,?_,?_,λa i=>?_,λi=>?_,λf hf=>?_⟩
 .grind
 .grind
 .dsimp only;rw[<-A];exact g1.ξ a i
 .have:=g1.iL i
  grind
 .rcases J4 (show f∈S.Μ++_ from hf) with q|q
  .exact h.fl f q
  .exact g1.Μ f q
def Pe(k:Int):Prop:=k=0\/k=1\/k=2\/k=5\/k=6
structure RN (s:L9):Prop where
 kd:Pe s.Ζ
 len:s.gN.length<=1000000
 K8:xs s.K8
 Γ:∀m∈s.gN,m.m.Γ.length<=9223372036854775807
 cap:∀m∈s.gN,m.m.Γ.length<=m.J3
 bd:∀m∈s.gN,∀p∈m.m.Γ,p.1<=9223372036854775807
def pW{L:Ι}(n k:Int)(hn:xs n)(Q:1<=k)(h3:k<=9223372036854775807) :
  Υ Λ 10 #[K n,K k] L (λv Ε=>∃p,v=K p/\(0<=p/\p<k)/\Ε = L):=by
 obtain⟨h0,I⟩:=hn;refine Υ.bd ?_;by_cases h:n<0
 .have g1:=ft (-(n+1)) (D:k≠0);have g2:=dA (-(n+1)) (D:0<k);refine ML ?_;intros;exact KX.en ⟨_,rfl,⟨g1,g2⟩,rfl⟩
 .have g1:=ft n (D:k≠0);have g2:=dA n (D:0<k);refine ML ?_;intros;exact KX.en ⟨_,rfl,⟨g1,g2⟩,rfl⟩
theorem ky{L:Ι}(ad:OA)(n c:Nat)(G:List Int)[F5 L ad Int (eU .i64) 1 G](hn:n=G.length)(M:∀x∈G,xs x)(i k:Int)(hk:1<=k/\k<=9223372036854775807) :
  Υ Λ 67 #[ae ad n c,K i,K k] L (λv Ε=>∃p,v=K p/\(0<=p/\p<k)/\Ε = L):=by
 subst hn;refine Υ.bd ?_;by_cases h0:0<=i
 case neg =>
  refine ML ?_;intros;exact KX.a8 aC (E.refl _) ⟨0,rfl,D,rfl⟩
 by_cases A:i<G.length
 case neg =>
  refine ML ?_;intros;exact KX.a8 aC (E.refl _) ⟨0,rfl,D,rfl⟩
 have hin:i.toNat<G.length:=D;refine ML ?_;intros;refine Y.ca (pW G[i.toNat]! k ah hk.1 hk.2) ?_;rintro _ _⟨p,rfl,hp,rfl⟩;refine ML ?_;intros;exact KX.en ⟨_,rfl,hp,rfl⟩
end
section
open Go.V
def Ji{α β:Type}(a:α)(g:α->List β):[a].flatMap g=g a:=by simp
end
section
open Go.V
attribute [local irreducible] Β Y GP δ vi Z Ef C0 E CB GB V.Enters
abbrev Hd:=Int×Int×Int
def fS(h:Int×Int×Int):χ:=[K h.1,K h.2.1,K h.2.2]
def wP(t:Hd):∀u∈fS t,u.oneCell' = true:=by simp[fS,Value.oneCell']
abbrev Vr:Nat:=73
def QC(x y:Hd):Int:=Un (Pd x.1 y.1) (Pd x.2.1 y.2.1)
def Qm(x y:Hd):Prop:=x.1<y.1\/(x.1=y.1/\x.2.1<y.2.1)
theorem qQ(x y:Hd):QC x y<0↔Qm x y:=by
 grind [QC,Un,Pd,Qm]
theorem CK:Go.Sort.SWO (ltOf QC) where
 irrefl x:=by grind [ltOf,qQ,Qm]
 trans x y z I Q:=by grind [ltOf,qQ,Qm]
 ntrans x y z I Q:=by grind [ltOf,qQ,Qm]
structure Sr (f:Int->Int->Int) (hs:List Hd):Prop where
 Vt:hs.Pairwise Qm
 mem:∀h,h∈hs↔h.2.2=f h.1 h.2.1/\h.2.2≠0
def uC{x:Hd}:¬Qm x x:=by unfold Qm;omega
def Gy{x y:Hd}(h:Qm x y):¬Qm y x:=by unfold Qm at *;omega
theorem qd:∀{l m:List Hd},l.Pairwise Qm->m.Pairwise Qm->(∀x,x∈l↔x∈m)->l=m
 | [],[],_,_,_=>rfl
 | [],y::m,_,_,h=>by grind [au]
 | x::l,[],_,_,h=>by grind [au]
 | x::l,y::m,I,Q,h=>by
  obtain⟨J,a2⟩:=List.pairwise_cons.1 I;obtain⟨b1,b2⟩:=List.pairwise_cons.1 Q
  have e:x=y:=by
   rcases L7 ((h x).1 au) with e|M
   .exact e
   .rcases L7 ((h y).2 au) with e|U
    .exact e.symm
    .exact iJ (J y U) (Gy (b1 x M))
  subst e;rw[qd a2 b2 (λz=>?_)];constructor
  .intro hz;rcases L7 ((h z).1 (az _ hz)) with e|q
   .exact iJ (e▸J z hz) uC
   .exact q
  .intro hz;rcases L7 ((h z).2 (az _ hz)) with e|q
   .exact iJ (e▸b1 z hz) uC
   .exact q
def Sr.unique{f g:Int->Int->Int}{l m:List Hd}(I:Sr f l)(Q:Sr g m)(e:∀a i,f a i=g a i):l=m :=
 qd I.Vt Q.Vt (λx=>by rw[I.mem,Q.mem,e])
end
section
open Go.V
def RO(ys:π)(f:Int):π:=ys.filter (λp=>decide (p.1=f))
end
section
open Go.V
attribute [local irreducible] Β Y GP δ vi Z Ef C0 E CB GB V.Enters
def RP(x y:iK):Prop:=x.2.1<y.2.1+y.2.2/\y.2.1<x.2.1+x.2.2
instance (x y:iK):Decidable (RP x y):=by unfold RP;infer_instance
def kg(l:π)(n:Int):Prop:=ir l/\L5 l/\aW l=n
theorem uo{l:π}{n:Int}:kg l n↔kf l n:=by
 constructor
 .rintro⟨I,Q,h3⟩;exact⟨I,h3,((sK I.1).2 Q).trans h3⟩
 .rintro⟨I,Q,h3⟩;exact⟨I,(sK I.1).1 D,Q⟩
def Fl{x y:iK}(h:apart x y):apart y x:=by unfold apart at *;omega
def L5.perm{l m:π}(h:L5 l)(p:m.Perm l):L5 m:=(p.pairwise_iff (λ {a b} q=>Fl q)).2 h
end
section
open Go.V
theorem Lm{a b:π}(p:a.Perm b)(t:iK):OV a t=OV b t:=by
 induction p with
 | nil=>rfl
 | cons x p ih=>grind [OV]
 | swap x y l=>grind [OV]
 | trans p1 p2 ih1 ih2=>omega
def Gp{a b:π}(p:a.Perm b):aW a=aW b:=by
 induction p with
 | nil=>rfl
 | cons x p ih=>rw[gC,gC,ih]
 | swap x y l=>rw[gC,gC,gC,gC];omega
 | trans p1 p2 ih1 ih2=>omega
theorem Tr{ys:π}{f:Int}{p:iK}:p∈RO ys f↔p∈ys/\p.1=f:=by
 unfold RO;grind
end
end Go.Proofs.YtlgpgjdggilkgaaGreatDoor
namespace Go.V
def E.j8{α:Type}{f:α->HP}{l l' : List α}(h:l.Perm l'){L:Ι}:E (h2 f l::L) (h2 f l'::L):=λθ R w s=>by
 have s1:=Sat.Qd (Φ:=l.map f) s;have s2:Sat θ (l'.map f++(L++R)) w:=s1.perm ((h.map f).append_right _);exact Sat.a8 (Φ:=l'.map f) s2
end Go.V
namespace Go.Proofs.YtlgpgjdggilkgaaGreatDoor
section
open Go.V
attribute [local irreducible] Β Y GP δ vi Z Ef C0 E CB GB V.Enters
section
variable {κ α:Type}[DecidableEq κ]
def pN:∀{m:List (κ×α)} {k:κ},k∉m.map (·.1)->I1 m k=m
 | [],_,_=>rfl
 | p::m,k,h=>by
  simp only[al,fL,not_or] at h;have e:(p.1 == k)=false:=by rw[beq_eq_false_iff_ne];exact λx=>h.1 x.symm
  have ih:=pN (m:=m) (k:=k) h.2;unfold I1 at ih ⊢;rw[dD (by rw[e];rfl),ih]
def ns:∀{m:List (κ×α)} {k:κ},ε m k=none->k∉m.map (·.1)
 | [],_,_=>by simp
 | p::m,k,h=>by
  obtain⟨q,a⟩:=p;unfold ε at h;rw[cA] at h;by_cases e:k=q
  .subst e;simp at h
  .have e2:(k == q)=false:=by rw[beq_eq_false_iff_ne];exact e
   rw[e2] at h;have:=ns (m:=m) (k:=k) h
   simp only[al,fL,not_or];exact⟨e,this⟩
theorem me:∀{m:List (κ×α)} {k:κ} {a:α},(m.map (·.1)).Nodup->ε m k=some a->m.Perm ((k,a)::I1 m k)
 | [],_,_,_,h=>by cases h
 | p::m,k,a,hn,h=>by
  obtain⟨q,b⟩:=p;simp only[al,eD] at hn;unfold ε at h;rw[cA] at h;by_cases e:k=q
  .subst e;simp only[beq_self_eq_true] at h;obtain rfl:b=a:=by simpa using h
   have e3:I1 ((k,b)::m) k=m:=by
    have:=pN hn.1
    unfold I1 at this ⊢;rw[List.filter_cons_of_neg cg,this]
   rw[e3]
  .have e2:(k == q)=false:=by rw[beq_eq_false_iff_ne];exact e
   rw[e2] at h;have ih:=me hn.2 h
   have e3:I1 ((q,b)::m) k=(q,b)::I1 m k:=by
    unfold I1;rw[dD ah]
   rw[e3];exact(List.Perm.cons _ ih).trans (List.Perm.swap _ _ _)
theorem wH{k:κ}{a:α}:∀m:List (κ×α),I1 (m.map λp=>if p.1=k then(k,a) else p) k=I1 m k
 | []=>rfl
 | p::m=>by
  have ih:=wH (k:=k) (a:=a) m;grind [I1]
theorem qT{m:List (κ×α)}{k:κ}{a:α}(hn:(m.map (·.1)).Nodup):(ez m k a).Perm ((k,a)::I1 m k):=by
 have I:=me (m:=ez m k a) (k:=k) (a:=a) (iE hn) (by rw[cF,Ω rfl])
 have Q:I1 (ez m k a) k=I1 m k:=by
  unfold ez;split
  .exact wH m
  .grind [I1]
 grind
end
end
section
open Go.V
def HH(l:π):∀a b:π,OO l (a++b)=OO l a+OO l b
 | [],b=>by show OO l b=0+OO l b;omega
 | x::a,b=>by
  have:=HH l a b
  show OV l x+OO l (a++b)=OV l x+OO l a+OO l b;omega
theorem yT(y:iK)(f a n m:Int)(hn:0<=n)(hm:0<=m)(U:0<=y.2.2):ov y (f,a,n+m)=ov y (f,a,n)+ov y (f,a+n,m):=by
 unfold ov;grind
def As(f a n m:Int)(hn:0<=n)(hm:0<=m):∀l:π,(∀y∈l,a0 y)->OV l (f,a,n+m)=OV l (f,a,n)+OV l (f,a+n,m)
 | [],_=>rfl
 | y::l,h=>by
  have U:=h y au;unfold a0 at U;have I:=yT y f a n m hn hm D;have Q:=As f a n m hn hm l (λz hz=>h z (az _ hz));show ov y _+OV l _=(ov y _+OV l _)+(ov y _+OV l _);omega
theorem Av(f a:Int):∀l:π,(∀y∈l,a0 y)->OV l (f,a,0)=0
 | [],_=>rfl
 | y::l,h=>by
  have Q:=Av f a l (λz hz=>h z (az _ hz))
  have I:ov y (f,a,0)=0:=by
   unfold ov;dsimp only;split<;>omega
  show ov y _+OV l _=0;omega
theorem HF(l:π)(x:iK):∀(s:π) (k:Nat),k<s.length->OO l (s.set k x)=OO l s - OV l s[k]! + OV l x
 | y::s,0,_=>by
  grind [OO]
 | y::s,k+1,h=>by
  have:=HF l x s k (by simpa using h)
  show OV l y+OO l (s.set k x)=OV l y+OO l s - OV l s[k]! + OV l x;omega
theorem Dd{l:π}(T:∀y∈l,a0 y):∀(Δ out:π),(∀z∈Δ,J9 z)->(∀z∈out,J9 z)->OO l (Δ.foldl bF out)=OO l out+OO l Δ
 | [],out,_,_=>by show OO l out=OO l out+0;omega
 | x::Δ,out,I,Q=>by
  have M:=I x ah;have ih:=Dd T Δ (bF out x) ah (CC Q M)
  have e:OO l (bF out x)=OO l out+OV l x:=by
   unfold bF;by_cases c0:x.2.2=0
   .grind [Av]
   .rw[Ο c0];by_cases c1:out.length≠0/\lK x out[out.length - 1]!
    .rw[Ω c1,HF l _ out _ D];have hb:=Q _ (bI (D:out.length - 1<out.length));have hc:=Ti.1 c1.2;generalize out[out.length - 1]! = b at *;unfold J9 at hb M;have:=As b.1 b.2.1 b.2.2 x.2.2 D D l T
     grind
    .rw[Ο c1,HH];grind [OO]
  grind [OO]
def Dc{w:iK}:∀{l:π},(∀q∈l,ov q w=0)->OV l w=0
 | [],_=>rfl
 | q::l,h=>by
  have I:=h q au;have Q:=Dc (l:=l) (λp hp=>h p (az _ hp));show ov q w+OV l w=0;omega
theorem wV{w:iK}:∀{l:π} {y:iK},(∀z∈l,a0 z)->L5 l->y∈l->0<=w.2.2->w.1=y.1->y.2.1<=w.2.1->w.2.1+w.2.2<=y.2.1+y.2.2->OV l w=w.2.2
 | z::l,y,T,ha,U,h0,I,Q,h3=>by
  obtain⟨J,a2⟩:=List.pairwise_cons.1 ha;have hz:=T z ah;unfold a0 at hz;have A:∀q∈l,a0 q:=ah;show ov z w+OV l w=w.2.2;rcases L7 U with rfl|U
  .have e1:ov y w=w.2.2:=by
    unfold ov;rw[Ω I.symm];omega
   have e2:OV l w=0:=by
    refine Dc (λq hq=>?_);have g1:=J q hq;have g2:=A q hq;unfold apart at g1;unfold a0 at g2;unfold ov;split<;>omega
   omega
  .have ih:=wV A a2 U h0 I Q h3;have g1:=J y U;have a3:=A y U;unfold a0 at a3;unfold apart at g1
   have e1:ov z w=0:=by
    unfold ov;split<;>omega
   omega
theorem wW{l:π}(T:∀z∈l,a0 z)(ha:L5 l):∀{s:π},(∀w∈s,a0 w/\∃y∈l,w.1=y.1/\y.2.1<=w.2.1/\w.2.1+w.2.2<=y.2.1+y.2.2)->OO l s=aW s
 | [],_=>by rw[jP];rfl
 | w::s,h=>by
  obtain⟨I,y,U,Q,h3,h4⟩:=h w au;have ih:=wW T ha (s:=s) (λq hq=>h q (az _ hq));unfold a0 at I;have e:=wV T ha U D Q h3 h4;rw[gC];show OV l w+OO l s=_;omega
theorem IC{a:π}(h:∀x∈a,a0 x){p:iK}(hp:a0 p):aW (pF a [p])=OV (N5 a) p:=by
 have hs:=(ru h).2
 have a2:L5 (N5 a):=by
  have:=(ng h a.length D).1
  rw[cK] at this;exact xV this
 have J:∀x∈[p],a0 x:=ah;have e0:kl a [p]=(M6 (N5 a) p).foldl bF []:=xK _ _;have hX:=(wv h J).1;have hin:∀w∈M6 (N5 a) p,a0 w/\∃y∈N5 a,w.1=y.1/\y.2.1<=w.2.1/\w.2.1+w.2.2<=y.2.1+y.2.2:=by grind [rq]
 have A:L5 (kl a [p]):=by
  rw[e0];refine kV ?_ (λz hz=>?_)
  .grind [mC]
  .grind [a0]
 have e1:aW (pF a [p])=aW (N5 a) - OO (N5 a) (kl a [p]):=qn hs hX A
 have e2:OO (N5 a) (kl a [p])=OO (N5 a) (M6 (N5 a) p):=by
  rw[e0,Dd hs _ _ (λz hz=>(hin z hz).1.w) ah];show 0+_=_;omega
 grind [wW,sH]
theorem Au{l:π}{p:iK}(T:∀y∈l,a0 y)(hp:a0 p):OV l p≠0↔∃y∈l,¬apart y p:=by
 constructor
 .intro h;refine Classical.byContradiction (λq=>h ?_);have A:∀y∈l,apart y p:=λy U=>Classical.byContradiction (λΔ=>q ⟨y,U,Δ⟩);clear h q;induction l with
  | nil=>rfl
  | cons y l ih =>
   grind [rD,OV]
 .rintro⟨y,U,hn⟩ e;exact hn ((rD (T y U) hp).1 (vS e y U))
theorem zf{a:π}(h:∀x∈a,a0 x)(ha:L5 a){p:iK}(hp:a0 p):pF a [p]≠[]↔∃y∈a,y.1=p.1/\RP p y:=by
 have hs:=(ru h).2;have J:∀x∈[p],a0 x:=ah;have A:∀z∈pF a [p],a0 z:=(xJ hs (wv h J).1).1;have e:=IC h hp;obtain⟨_,_,g3,_⟩:=ng h a.length D;rw[cK] at g3;have e2:OV (N5 a) p=OV a p:=ah
 have e3:pF a [p]≠[]↔OV a p≠0:=by
  rw[<-e2,<-e];constructor
  .intro Q h3;have:=lz A (List.length_pos_iff.2 Q)
   omega
  .grind [jP]
 grind [Au,apart,RP]
end
end Go.Proofs.YtlgpgjdggilkgaaGreatDoor
namespace Go.V
section
section
variable {P:Program}{N:Nat}{env:Env}{L:Ι}{Ρ:F8}{ty:TypeId}
def Enters.go{f:FuncId}(h:Enters P f)(args:Array Value)(w:World):(callFunc f args).run P w=.ok (.enter f args) w:=h args w
def V9(θ:Th)(R:Ι)(pr:Value->Ι->Prop)(pp:List PanicEntry->Ι->Prop):Ending->World->Prop
 | .returned v,w=>∃Ε,pr v Ε/\Sat θ (Ε++R) w
 | .panicked ch,w=>∃Ε,pp ch Ε/\Sat θ (Ε++R) w
 | .outgrown,_=>False
structure Ts (P:Program) (f:FuncId) (args:Array Value) (L:Ι) (pr:Value->Ι->Prop) (pp:List PanicEntry->Ι->Prop):Prop where
 enters:Enters P f
 calls:∀θ R w,Sat θ (L++R) w->Calls P f args w (V9 θ R pr pp)
def Ts.mono{f:FuncId}{args:Array Value}{pr J : Value->Ι->Prop}{pp A : List PanicEntry->Ι->Prop}(h:Ts P f args L pr pp)(I:∀v L,pr v L->J v L)(Q:∀v L,pp v L->A v L):Ts P f args L J A :=
 ⟨h.enters,λθ R w s=>(h.calls θ R w s).mono λe dH he=>by
  cases e with
  | returned v=>obtain⟨Ε,a,b⟩:=he;exact⟨Ε,I _ _ a,b⟩
  | panicked v=>obtain⟨Ε,a,b⟩:=he;exact⟨Ε,Q _ _ a,b⟩
  | outgrown=>exact he⟩
def Ts.pre{f:FuncId}{args:Array Value}{Ε : Ι}{pr:Value->Ι->Prop}{pp:List PanicEntry->Ι->Prop}(h:Ts P f args Ε pr pp)(T:E L Ε):Ts P f args L pr pp :=
 ⟨h.enters,λθ R w s=>h.calls θ R w (T θ R w s)⟩
def MJ(P:Program)(N:Nat)(rs:List ResultVar)(pr:Value->Ι->Prop)(pp:List PanicEntry->Ι->Prop):F8:=λe env L=>match e with
 | .ret | .normal=>∀θ R w,Sat θ (L++R) w->∃vs Ε,C9 P N env L rs vs/\Sat θ (Ε++R) w/\pr (O5 vs) Ε
 | .panic ch=>∃Ε,E L Ε/\pp ch Ε
 | _=>False
def mh{fn:Func}{tmps:Array Value}{R:Ending->World->Prop}{θ:Th}{aa:Ι}{u:FrameMode}(hu:u≠.run):∀(ο:List Nat) (w:World),Sat θ (E5 ο++aa) w->(∀dH,Sat θ aa dH->LeavesIn Fence.wide 0 P fn tmps R [] u dH)->LeavesInM Fence.wide 0 P fn tmps R (PZ ο) u w
 | [],w,s,h=>h w s
 | H7::ο,w,s,h=>by
  have s0:Sat θ (sh H7 (.deferred (some []))::(E5 ο++aa)) w:=s;have hb:=s0.M8;refine⟨hu,.inl ⟨H7,{ w with heap:=w.heap.setIfInBounds H7 (.deferred none) },rfl,?_,?_⟩⟩
  .simp[Instr.takeDeferred,getObj,setObj,Sem.run,hb,bind,Sem.bind,pure]
  .have A:H7<w.heap.size:=(Array.getElem?_eq_some_iff.1 hb).1
   have s1:Sat θ (sh H7 (.deferred none)::(E5 ο++aa)) { w with heap:=w.heap.setIfInBounds H7 (.deferred none) }:=by
    refine s0.update ⟨s.1.tape,s.1.os,s.1.output,s.1.drawn⟩ (by simp[A]) ?_;intro k x hk M;simp only[Array.getElem?_setIfInBounds];rw[Ο (λe=>hk e.symm)];exact M
   exact mh hu ο _ s1.tail h
theorem NY.c7{fn:Func}{args:χ}(hN:fn.ntmps=N)(J : args.length<=N):NY N (OP args 0) { tmps:=args.toArray++Array.replicate (fn.ntmps - args.toArray.size) undef,defers:=[] }:=by
 refine⟨by simp[hN];omega,?_⟩;intro t v ht;rw[sA] at ht;simp at ht;have A:t<args.length:=(List.getElem?_eq_some_iff.1 ht).1;rw[Array.getElem?_append_left (by simpa using A)];simpa using ht
def Ts.body{f:FuncId}{fn:Func}{c:Code}{args:χ}{pr:Value->Ι->Prop}{pp:List PanicEntry->Ι->Prop}{rs:List ResultVar}(N:Nat)
  (he:Enters P f) (hf:P.funcs[f]? = some fn) (hb:fn.body=some c) (hr:fn.results=rs.toArray) (hN:fn.ntmps=N) (a6 : args.length<=N)
  (h:Β P N c (OP args 0) L (MJ P N rs pr pp)):Ts P f args.toArray L pr pp:=by
 refine⟨he,λθ R w s=>(callsIn_wide (n:=0)).1 (callsIn_of_wp_marks hf hb trivial ?_)⟩;refine wpIn_mono (h none θ R _ w (λl T=>by cases T) ⟨[],NY.c7 hN a6,rfl,s⟩) ?_;rintro e a' dH ⟨a3,Ε,⟨ο,a5,hm,s'⟩,hex⟩
 have s1:Sat θ (E5 ο++(Ε++R)) dH:=s'.perm (by
  rw[<-aF,<-aF];exact List.perm_append_comm.append_right R)
 have a2:(∀θ R w,Sat θ (Ε++R) w->∃vs Rk,C9 P N a3 Ε rs vs/\Sat θ (Rk++R) w/\pr (O5 vs) Rk)->LeavesInM Fence.wide 0 P fn a'.tmps (V9 θ R pr pp) a'.defers .returning dH:=by
  intro a4;rw[hm];refine mh cg ο dH s1 λw₂ s₂=>?_;obtain⟨vs,Rk,a7,J,A⟩:=a4 θ R w₂ s₂;exact⟨_,ug (P:=P) a5 s₂ hr a7,Rk,A,J⟩
 cases e with
 | ret=>exact a2 hex
 | normal=>exact a2 hex
 | panic ch =>
  obtain⟨Rk,J,A⟩:=hex;show LeavesInM Fence.wide 0 P fn a'.tmps (V9 θ R pr pp) a'.defers (.panicking ch) dH;rw[hm];refine mh cg ο dH s1 λw₂ s₂=>?_;exact⟨Rk,A,J θ R w₂ s₂⟩
 | exit r=>exact hex.elim
 | goto l=>exact hex.elim
 | outgrown=>exact hex.elim
def Y.panic{J:Array Oper}{cR:List Oper}{x:Operand}{t:TypeId}{v:Value}{pos:String}{af:Array Edge}(M:bG env x=some (.iface t v))(h:Ρ (.panic [{ v:=.iface t v,recovered:=false }]) env L):Y P N J (⟨none,.panic x,ty,pos,af,none⟩::cR) env L Ρ:=by
 intro Δ θ aa a w hr i;refine wpListIn_plain rfl λK' hK=>mq (λc hc=>by cases hc) ?_
 have A:(execOp a.eval ⟨none,.panic x,ty,pos,af,none⟩).run P w=.halt (.panic (.iface t v)) w:=by
  simp[execOp,aI i.O4 M,Instr.panic,goPanic]
 rw[Oper.wp,A,Oper.upon_panic];exact⟨env,L,i,h⟩
structure Wb (N:Nat) (env:Env) (L:Ι) (θ:Th) (R:Ι) (H7:List Deferred) (a:Act) (w:World):Prop where
 TB:NY N env a
 Zc:a.defers=H7
 sat:Sat θ (L++R) w
def Wb.cM{θ:Th}{R:Ι}{H7:List Deferred}{a:Act}{w:World}{Ε : Ι}(h:Wb N env L θ R H7 a w)(T:E L Ε):Wb N env Ε θ R H7 a w:=⟨h.TB,h.Zc,T θ R w h.sat⟩
end
end
section
section
variable {P:Program}{L:Ι}{env:Env}{ty:TypeId}
def Z.A3{t yt:TypeId}{x y:Operand}{k:IntKind}{a:Int}(M:bG env x=some (K a))(U:bG env y=some (.int k 32)):Z P L env (.binOp .shr t x y yt) ty (K (a / 4294967296)):=by
 have h:=Z.shr (P:=P) (L:=L) (ty:=ty) (t:=t) (yt:=yt) M U ac
 have e:a.fdiv (2 ^ min (32:Int).toNat IntKind.i64.bits)=a / 4294967296:=by
  rw[show(2:Int) ^ min (32:Int).toNat IntKind.i64.bits=4294967296 by decide];exact dK a ac
 rw[e] at h;exact h
def Z.A4{t yt:TypeId}{x y:Operand}{k:IntKind}{a:Int}(M:bG env x=some (K a))(U:bG env y=some (.int k 32))(h0 : -2147483648<=a)(I:a<=2147483647):Z P L env (.binOp .shl t x y yt) ty (K (a*4294967296)):=by
 have h:=Z.shl (P:=P) (L:=L) (ty:=ty) (t:=t) (yt:=yt) M U ac
 have e:IntKind.i64.wrap (a*2 ^ min (32:Int).toNat IntKind.i64.bits)=a*4294967296:=by
  rw[show(2:Int) ^ min (32:Int).toNat IntKind.i64.bits=4294967296 by decide];exact wrap_i64 D D
 rw[e] at h;exact h
