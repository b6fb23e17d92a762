/- Lemmas. -/
import Derived.Test.YtlgpgjdggilkgaaGreatDoorEdak
set_option linter.all false
namespace Go.Proofs.YtlgpgjdggilkgaaGreatDoor
section
open Go.V
attribute [local irreducible] Β Y GP δ vi Z Ef C0 E CB GB Enters
structure E3 where
 r:Int
 step:Int
 Ζ:Int
 B:Int
 Rt:Int
 Ν:Int
 to:Int
 a1:Int
 n:Int
 Γ:π
 made:List Int
 deriving Inhabited,DecidableEq
structure O7 where
 m:E3
 pad:OA
 J3:Nat
 gi:OA
 iM:Nat
 deriving Inhabited
def fw(f:O7):χ:=[K f.m.r,K f.m.step,K f.m.Ζ,K f.m.B,K f.m.Rt,K f.m.Ν,K f.m.to,K f.m.a1,K f.m.n,ae f.pad f.m.Γ.length f.J3,ae f.gi f.m.made.length f.iM]
def ob(t:O7):∀u∈fw t,u.oneCell' = true:=by simp[fw,Value.oneCell']
instance:Rl fw:=⟨ob⟩
def OZ(f:O7):HP:=R5 (τ aK 3 f.pad f.m.Γ) (τ (eU .i64) 1 f.gi f.m.made)
def xx(f:O7):Og (OZ f):=(cT _ _ _ _).and (cT _ _ _ _)
def iw(s:L9):HP:=R5 (stM s) (Nb s)
def rt(s:L9):Og (iw s):=(Dt s).and (eV kq)
structure Τ where
 D9:Int
 υ:B4
 ξ:Int->Int->π
 iL:Int->Int
 Ev:List D7
 Μ:List E3
 imp:Int->π
 ret:Int->π
structure Od where
 υ:K9
 O:Nat
 mt:Nat
 mi:Nat
 mr:Nat
 ξ:List ((Int×Int)×iI)
 iL:List (Int×Int)
 imp:List (Int×iI)
 ret:List (Int×iI)
 Ev:List L9
 K0:OA
 P3:Nat
 Μ:List O7
 C4:OA
 F3:Nat
abbrev SR:Nat:=130
abbrev jh:Nat:=87
abbrev gZ:Nat:=45
def fM{κ:Type}[DecidableEq κ](m:List (κ×iI))(k:κ):iI:=(ε m k).getD ⟨none,0,[]⟩
structure Vn (S:Τ) (x:Od):Prop where
 υ:x.υ.m=S.υ
 Ul:x.υ.hx
 ξ:∀a i,(fM x.ξ (a,i)).D3=S.ξ a i
 full:∀p∈x.ξ,p.2.D3≠[]
 iL:∀i,(ε x.iL i).getD 0=S.iL i
 Ev:x.Ev.map L9.m=S.Ev
 Μ:x.Μ.map (·.m)=S.Μ
 imp:∀i,(fM x.imp i).D3=S.imp i
 ret:∀i,(fM x.ret i).D3=S.ret i
structure Τ.Ok (S:Τ):Prop where
 D9:0<=S.D9/\S.D9<12
 Ev:S.Ev.length<=65536
 Μ:S.Μ.length<=64*S.Ev.length
 ξ:∀a i,(S.ξ a i).length<=4096/\∀l∈S.ξ a i,a0 l
 iL:∀i,-((S.Μ.length:Int)*1099511627776)<=S.iL i/\S.iL i<=1099511627776
abbrev cJ(d:Int)(x:Od):χ:=[K d,ae x.υ.I6 x.υ.B7.length x.υ.K1,ae x.υ.N2 0 x.υ.N3,ae x.υ.RJ 0 x.υ.RK,ae x.υ.R6 0 x.υ.R7,.map (some x.O),.map (some x.mt),ae x.K0 x.Ev.length x.P3,ae x.C4 x.Μ.length x.F3,.map (some x.mi),.map (some x.mr)]
abbrev E1(b:Nat)(d:Int)(x:Od)(L:Ι):Ι :=
 obj b SR (cJ d x)::ew D6 iI.v x.O x.ξ::ew gT Qz x.mt x.iL::Pt eH 7 jh x.K0 x.P3 x.Ev::Pt fw 11 gZ x.C4 x.F3 x.Μ::ew gT iI.v x.mi x.imp::ew gT iI.v x.mr x.ret::Oc x.υ::η (λp:(Int×Int)×iI=>G8 p.2) x.ξ::η iw x.Ev::η OZ x.Μ::η (λp:Int×iI=>G8 p.2) x.imp::η (λp:Int×iI=>G8 p.2) x.ret::L
def L1(d:Int)(c:B4):Τ:=⟨d,c,λ_ _=>[],λ_=>0,[],[],λ_=>[],λ_=>[]⟩
def Τ.now(S:Τ):Int:=(S.Ev.getLast?.map (·.B)).getD 0
abbrev DH:=Yv [.ev 13]
def Nr{φ ψ:Prop}(k:ψ)(h:Hid ψ->φ:=by intro k;(repeat (first|refine ab ?_|intro B8|refine Β.dr 22 3 DH ?_));(repeat revert B8);exact Hid.out k):φ:=h ⟨k⟩
def Gq{L R:Ι}{b:Nat}{d:Int}{x:Od}[hp:Pq L b SR (cJ d x) R][hr:F5 L x.K0 L9 eH 7 x.Ev](T:x.Ev.length<=100000) :
  Υ Λ 189 #[ay b] L (F7 (K ((x.Ev.getLast?.map (·.B)).getD 0)) L):=by
 refine Υ.bd ?_;by_cases h0:x.Ev.length=0
 .refine Nr ?_;intros;exact KX.a8 aC (E.refl _) ⟨by rw[cc h0];rfl,rfl⟩
 .refine Nr ?_;intros;refine KX.a8 aC (E.refl _) ⟨?_,rfl⟩
  have e:x.Ev.getLast? = some x.Ev[((x.Ev.length:Int) - 1).toNat]!:=by
   rw[show((x.Ev.length:Int) - 1).toNat=x.Ev.length - 1 by omega,List.getLast?_eq_getElem?,E7 D,List.getElem?_eq_getElem]
  rw[e];rfl
def PO(n:Int):Prop:=0<=n/\n<=1073741824
instance:DecidablePred PO:=λn=>by unfold PO;infer_instance
def pI{L:Ι}(n:Int):Υ Λ 188 #[K n] L (F7 (.bool (dB (PO n))) L):=by
 refine Υ.bd ?_;by_cases I:0<=n
 .by_cases Q:n<=1073741824
  .refine ML ?_;intros;exact KX.a8 aC (E.refl _) ⟨by rw[bO Q,bO (show PO n from⟨I,Q⟩)];rfl,rfl⟩
  .refine ML ?_;intros;exact KX.a8 aC (E.refl _) ⟨by rw[bz Q,bz (λh:PO n=>Q h.2)];rfl,rfl⟩
 .refine ML ?_;intros;exact KX.a8 aC (E.refl _) ⟨by rw[bz (λh:PO n=>I h.1)];rfl,rfl⟩
def Um(f:FuncId)(p:Int->Bool):Prop:=∀(n:Int) (L:Ι),Υ Λ f #[K n] L (F7 (.bool (p n)) L)
def oe:Um 269 (λn=>dB (n=0)):=by
 intro n L;refine Υ.bd (args:=[K n]) ?_;refine ML ?_;intros;exact KX.en ⟨rfl,rfl⟩
def kO:Um 270 (λn=>dB (¬n=0)):=by
 intro n L;refine Υ.bd (args:=[K n]) ?_;refine ML ?_;intros;exact KX.en ⟨rfl,rfl⟩
def Lt(n:Int):Prop:=1<=n/\n<=1048576
def kY(K8 Oi:Int):Prop:=K8 = -1/\Oi=0
instance (a b:Int):Decidable (kY a b):=by unfold kY;infer_instance
def zq{L:Ι}(b:Nat)(s:L9):Υ Λ 271 #[ay b,bC (eH s)] L (F7 (.bool (dB (kY s.K8 s.Oi))) L):=by
 refine Υ.bd ?_;by_cases I:s.K8 = -1
 .by_cases Q:s.Oi=0
  .refine ML ?_;intros;exact KX.a8 aC aj ⟨by rw[bO Q,bO (show kY s.K8 s.Oi from⟨I,Q⟩)];rfl,rfl⟩
  .refine ML ?_;intros;exact KX.a8 aC aj ⟨by rw[bz Q,bz (λh:kY s.K8 s.Oi=>Q h.2)];rfl,rfl⟩
 .refine ML ?_;intros;exact KX.a8 aC aj ⟨by rw[bz (λh:kY s.K8 s.Oi=>I h.1)];rfl,rfl⟩
def V1(l:List (Int×Int)):Prop:=∀a∈l,0<=a.2/\a.2<=1099511627776
structure B4.Ok (c:B4):Prop where
 take:∀Δ∈c.rules,V1 Δ.take
 VZ:∀Δ∈c.rules,V1 Δ.VZ
 back:∀Δ∈c.rules,V1 Δ.back
def jb(K8:Int):Int:=if K8 < -1 then -2 - K8 else K8
def zG(Δ:Uk)(K8:Int):List (Int×Int):=if K8 < -1 then Δ.back else Δ.VZ
def Lu(O:List B1)(Oi:Int)(a:Int×Int)(m:B1):Prop:=m.Ν=O[0]!.Ν/\m.to=0/\m.a1=a.1/\m.n=a.2*Oi
def Ma(t0 Oi:Int)(a:Int×Int)(m:B1):Prop:=m.Ν=0/\m.to=t0/\m.a1=a.1/\m.n=a.2*Oi
def Hr(rules:List Uk)(K8 Oi:Int)(O:List B1):Prop :=
 (0<=jb K8/\jb K8<rules.length)/\Lt Oi/\rules[(jb K8).toNat]!.spawn=false/\¬(K8 < -1/\rules[(jb K8).toNat]!.Y2 >= rules[(jb K8).toNat]!.Y3) /\
 O.length=rules[(jb K8).toNat]!.take.length+(zG rules[(jb K8).toNat]! K8).length /\
 (∀i:Nat,i<rules[(jb K8).toNat]!.take.length->Lu O Oi rules[(jb K8).toNat]!.take[i]! O[i]!) /\
 (∀i:Nat,i<(zG rules[(jb K8).toNat]! K8).length->Ma (O[rules[(jb K8).toNat]!.take.length]!).to Oi (zG rules[(jb K8).toNat]! K8)[i]! O[rules[(jb K8).toNat]!.take.length+i]!)
instance:Inhabited B1:=inferInstance
def LT(k:Int):Prop:=k=0\/k=1\/k=6\/k=2\/k=3\/k=8\/k=4
def R8(x:Od):Int:=(x.Ev.getLast?.map (·.B)).getD 0
abbrev Jv:Nat:=299
theorem zj{l:π}{x:iK}(h:∀y∈l,a0 y)(M:J9 x):∀y∈bF l x,a0 y:=by
 grind [bF,J9,Ti,bI,a0]
theorem lD{G:π}:∀{l:π},(∀y∈l,a0 y)->(∀y∈G,J9 y)->∀y∈G.foldl bF l,a0 y:=by
 induction G with
 | nil=>grind
 | cons x G ih=>grind [zj,au]
def He{l:π}{cs:Nat->Int}(hw:∀x∈l,a0 x)(hc:∀k,k<l.length->0<=cs k/\cs k<=l[k]!.2.2):(∀x∈PG l cs l.length,a0 x)/\∀x∈Pu l cs l.length,a0 x:=by
 refine⟨lD cg ?_,lD cg ?_⟩
 all_goals
  intro y U
  obtain⟨k,hk,rfl⟩:=H8 U
  have hk:=List.mem_range.1 hk
 .exact(UM hk (λx h=>(hw x h).w) (hc k hk)).1
 .exact(UM hk (λx h=>(hw x h).w) (hc k hk)).2
abbrev DG:List K3:=[.ev 0,.ev 2,.ef 1,.ef 3,.ev 4]
def gS{φ ψ:Prop}(k:ψ)(h:Hid ψ->φ:=by intro k;first|refine Y.ci (f:=116) (Hid.out k)|refine δ.ci (f:=116) (Hid.out k)|refine Y.cf (f:=116) rfl (Hid.out k)|refine δ.cf (f:=116) rfl (Hid.out k)|refine KX.RY (Hid.out k)):φ:=h ⟨k⟩
def gR{φ ψ:Prop}(k:ψ)(h:Hid ψ->φ:=by intro k;(with_reducible apply Β.a8);first|refine Β.dr 17 3 DG (Hid.out k)):φ:=h ⟨k⟩
def Yn{φ ψ:Prop}(k:ψ)(h:Hid ψ->φ:=by intro k;(repeat (first|refine ab ?_|intro B8|refine gR ?_|refine gS ?_));(repeat revert B8);exact Hid.out k):φ:=h ⟨k⟩
def Gx{L:Ι}(ad:OA)(cap:Nat)(G:π)(x:iK)(T:G.length<=4096)(a4:∀l∈G,a0 l)(M:a0 x) :
  Υ Λ 195 #[ae ad G.length cap,bC (aK x)] (τ aK 3 ad G::L) (λv Ε=>∃a3 A,v=ae a3 (bF G x).length A/\Ε = μ aK 3 I5 a3 A (bF G x)::τ aK 3 ad G::L):=by
 have a7:=M;obtain⟨o1,o2,o3,o4,o5⟩:=a7;refine Υ.bd ?_;refine Yn ?_;intros;refine Y.cr (km ad G.length cap G rfl T a4) ?_;refine Yn ?_;intros;rw[bO o5];refine Yn ?_;intros;refine δ.ca (ju ad G.length cap G rfl D) ?_;rintro _ _⟨a5,J,rfl,rfl⟩;refine Yn ?_;intros;refine δ.ca (qS a5 J G x D (λy h=>(a4 y h).w) M.w) ?_;rintro _ _⟨a6,a2,rfl,rfl⟩;refine Yn ?_;intros;exact KX.en ⟨a6,a2,rfl,rfl⟩
def Nd(l:π)(n:Int)(k:Nat):Int:=n*l[k]!.2.2 / aW l
def N4(l:π)(n:Int)(k:Nat):Int:=n*l[k]!.2.2 % aW l
def Jw(l:π)(n:Int)(k:Nat):Nat:=((List.range l.length).filter (λj=>decide (N4 l n k<N4 l n j\/(N4 l n j=N4 l n k/\j<k)))).length
def iS(l:π)(n:Int):Int:=n - (List.range l.length).foldl (λs k=>s+Nd l n k) 0
def PR(l:π)(n:Int)(k:Nat):Int:=Nd l n k+(if(Jw l n k:Int)<iS l n then 1 else 0)
def Q5(mixed:Bool)(l:π)(n:Int):Nat->Int:=if mixed=true/\0<n then PR l n else PI l n
def nc(mixed:Bool)(l:π)(n:Int):π:=PG l (Q5 mixed l n) l.length
def jF(mixed:Bool)(l:π)(n:Int):π:=Pu l (Q5 mixed l n) l.length
structure TO (mixed:Bool):Prop where
 bd:∀(l:π) (n:Int),(∀x∈l,a0 x)->0<=n->n<=aW l->∀k,k<l.length->0<=Q5 mixed l n k/\Q5 mixed l n k<=l[k]!.2.2
 tri:∀(L:Ι) (ad:OA) (c:Nat) (G:π) (n:Int),G.length<=4096->(∀l∈G,a0 l)->0<=n->n<=1099511627776 ->
  Υ Λ 300 #[ae ad G.length c,K n,.bool mixed] (τ aK 3 ad G::L) (λv Ε =>
   (aW G<n/\v=.tuple #[ae none 0 0,ae none 0 0,K 10]/\Ε = τ aK 3 ad G::L) \/
   (n<=aW G/\∃UO c1 Xe c2,v=.tuple #[ae UO (nc mixed G n).length c1,ae Xe (jF mixed G n).length c2,K 0]/\Ε = μ aK 3 I5 UO c1 (nc mixed G n)::μ aK 3 I5 Xe c2 (jF mixed G n)::τ aK 3 ad G::L))
def AB:TO false where
 bd:=λl n T h0 _ k hk=>qW h0 (λx h=>(T x h).w) k hk
 tri:=λ_ ad c G n I Q h3 h4=>Dq ad c G n false rfl I Q h3 h4
structure V2 where
 cs:Nat
 ct:Nat
 ci:Nat
 cr:Nat
 ξ:List ((Int×Int)×iI)
 iL:List (Int×Int)
 Μ:List O7
 C4:OA
 F3:Nat
 NW:List Int
 OG:OA
 OH:Nat
abbrev V3:Nat:=178
def V4(x:Od)(z:V2)(k:Int×Int):iI:=(ε z.ξ k).getD (fM x.ξ k)
def vh{κ:Type}[DecidableEq κ](m:List (κ×iI))(k:κ):((@List.lookup _ _ instBEqOfDecidableEq k m).map iI.v).getD (ae none 0 0)=(fM m k).v:=by
 unfold fM ε;cases @List.lookup _ _ instBEqOfDecidableEq k m<;>rfl
def vZ{κ:Type}[DecidableEq κ]{m:List (κ×iI)}(k:κ){L:Ι}:E (η (λp:κ×iI=>G8 p.2) m::L) (G8 (fM m k)::η (λp:κ×iI=>G8 p.2) m::L):=by
 unfold fM;cases h:ε m k with
 | none=>exact E.f7 aK 3 none
 | some s=>exact E.d8 (f:=λp:κ×iI=>G8 p.2) (x:=(k,s)) (bR h)
structure acY (x:Od) (z:V2) (m:B1):Prop where
 a1:0<=m.a1/\m.a1<x.υ.B7.length
 n:0<=m.n/\m.n<=1099511627776
 Γ:m.Γ.length=0
 len:(V4 x z (m.Ν,m.a1)).D3.length<=4096
 D3:∀l∈(V4 x z (m.Ν,m.a1)).D3,a0 l
def cX(x:Od)(i:Int):Bool:=x.υ.B7[i.toNat]!.mixed
structure Wk where
 ξ:Int->Int->π
 iL:Int->Int
 Μ:List E3
 NW:List Int
def PS{α:Type}(f:Int->Int->α)(a i:Int)(v:α):Int->Int->α:=λa' i'=>if a' = a/\i' = i then v else f a' i'
def dt(W:Wk)(m:B1):Int:=W.iL m.a1+(if m.Ν=0 then m.n else 0) - (if m.to=0 then m.n else 0)
def fc(d:Int)(nf:Nat)(W:Wk):Int:=d*4294967296+nf+W.Μ.length
def lc(s:D7)(W:Wk)(m:B1):List Int:=if m.Ν=0/\(s.Ζ=4\/s.Ζ=10) then W.NW else[]
structure WkF (x:Od) (z:V2) (W:Wk):Prop where
 ξ:∀a i,(V4 x z (a,i)).D3=W.ξ a i
 iL:∀i,(ε z.iL i).getD ((ε x.iL i).getD 0)=W.iL i
 Μ:z.Μ.map O7.m=W.Μ
 NW:z.NW=W.NW
structure Wk.Ok (nf:Nat) (W:Wk):Prop where
 ξ:∀a i,(W.ξ a i).length<=4096/\∀l∈W.ξ a i,a0 l
 iL:∀i,-(((nf:Int)+W.Μ.length)*1099511627776)<=W.iL i/\W.iL i<=1099511627776
 NW:W.NW.length<=W.Μ.length
def xm{L:Ι}(ad:OA)(n c:Nat)(G:List Int)[F5 L ad Int (eU .i64) 1 G](hn:n=G.length)(hb:n<=1000000) :
  Υ Λ 115 #[ae ad n c] L (λv Ε=>∃J A,v=ae J G.length A/\Ε = μ (eU .i64) 1 C3 J A G::L):=by
 refine Υ.bd ?_;repeat' first|refine ab ?_|intro _|with_reducible refine CB.dec (λ_=>?_) (λ_=>?_)|with_reducible refine GB.dec (λ_=>?_) (λ_=>?_)|with_reducible refine CB.bool (λ_=>?_) (λ_=>?_)|with_reducible refine GB.bool (λ_=>?_) (λ_=>?_)
 .have h:ad=none:=by assumption
  subst h;refine KX.f9 (.inl rfl) (oI (L:=L) (G:=G)) ?_;intro M;subst M;refine KX.a8 aC (E.c8 (eU .i64) 1 C3) ⟨_,_,rfl,rfl⟩
 .refine Y.cM (E.d9 (Η:=eU .i64) (sz:=1) (G:=[]) rfl rfl cg cg) ?_;refine Y.ef (Ef.c9 rfl rfl rfl rfl hn (λe _=>by simp[eU,Value.oneCell']) ib ib) ac ?_;rintro _ _⟨J,A,rfl,rfl⟩;refine ML ?_;intros;refine KX.a8 aC (E.refl _) ⟨J,A,rfl,rfl⟩
structure acZ (x:Od) (m:B1):Prop where
 a1:0<=m.a1/\m.a1<x.υ.B7.length
 n:1<=m.n/\m.n<=1099511627776
 Ν:PO m.Ν
 to:PO m.to
 ne:m.Ν≠m.to
 Γ:m.Γ.length=0
def Mt(m:List (Int×Int))(k Ξ:Int):((@List.lookup _ _ instBEqOfDecidableEq k m).map Qz).getD (K Ξ)=K ((ε m k).getD Ξ):=by
 unfold ε;cases @List.lookup _ _ instBEqOfDecidableEq k m<;>rfl
abbrev P4(f:E3)(pad:OA)(J3:Nat)(gi:OA)(iM:Nat):O7:=⟨f,pad,J3,gi,iM⟩
def D7.at(s:D7)(r:Int):D7:={ s with r:=r }
def L9.at(s:L9)(r:Int):L9:={ s with r:=r }
def Nk(S:Τ):Wk:=⟨S.ξ,S.iL,[],[]⟩
structure ac0 (s:L9):Prop where
 Ζ:LT s.Ζ
 len:s.gN.length<=1000000
 cap:s.gN.length<=s.iM
 K8:xs s.K8
 Γ:∀m∈s.gN,m.m.Γ.length<=1000000
def cS(S:Τ):Int:=S.D9*4294967296+(S.Ev.length:Int)
def fW(c:B4)(i:Int):Bool:=c.B7[i.toNat]!.mixed
section plain
variable {κ α:Type}[DecidableEq κ]
theorem tm(p:κ×α)(l:List (κ×α))(k:κ):ε (p::l) k=if k=p.1 then some p.2 else ε l k:=by
 grind [ε]
theorem cF(m:List (κ×α))(k q:κ)(a:α):ε (ez m k a) q=if q=k then some a else ε m q:=ot
theorem IW(m:List (κ×α))(k q:κ):ε (I1 m k) q=if q=k then none else ε m q:=BK
theorem zF{l:List (κ×α)}{k:κ}(h:k∉l.map (·.1)):ε l k=none:=by
 induction l with
 | nil=>rfl
 | cons p l ih =>
  grind [tm]
theorem ti{l l' : List (κ×α)}(hp:l.Perm l')(hn:(l'.map (·.1)).Nodup)(k:κ):ε l k=ε l' k:=by
 have A:(l.map (·.1)).Nodup:=ah;cases h:ε l k with
 | some a=>exact(fo hn (hp.mem_iff.1 (bR h))).symm
 | none =>
  grind [ε]
def im(m n:List (κ×α)):List (κ×α):=n.foldl (λm p=>ez m p.1 p.2) m
theorem ou(k:κ):∀(n m:List (κ×α)),(n.map (·.1)).Nodup->ε (im m n) k=(ε n k).or (ε m k)
 | [],m,_=>rfl
 | p::n,m,hn=>by
  simp only[al,eD] at hn;have ih:=ou k n (ez m p.1 p.2) hn.2;have e:im m (p::n)=im (ez m p.1 p.2) n:=rfl;rw[e,ih,tm,cF];by_cases h:k=p.1
  .rw[Ω h,Ω h,zF (h▸hn.1)];rfl
  .rw[Ο h,Ο h]
end plain
def R9(m:List ((Int×Int)×iI))(p:(Int×Int)×iI):List ((Int×Int)×iI):=if p.2.D3.length=0 then I1 m p.1 else ez m p.1 p.2
def iF(m n:List ((Int×Int)×iI)):List ((Int×Int)×iI):=n.foldl R9 m
theorem ub(m:List ((Int×Int)×iI))(p:(Int×Int)×iI)(k:Int×Int):(fM (R9 m p) k).D3=if k=p.1 then p.2.D3 else(fM m k).D3:=by
 grind [fM,R9,IW,cF]
def qr(k:Int×Int):∀(n m:List ((Int×Int)×iI)),(n.map (·.1)).Nodup->(fM (iF m n) k).D3=((ε n k).getD (fM m k)).D3
 | [],m,_=>rfl
 | p::n,m,hn=>by
  simp only[al,eD] at hn;have ih:=qr k n (R9 m p) hn.2;have e:iF m (p::n)=iF (R9 m p) n:=rfl;rw[e,ih,tm];by_cases h:k=p.1
  .rw[Ω h,zF (h▸hn.1)];have Q:=ub m p k;rw[Ω h] at Q;exact Q
  .rw[Ο h];cases ε n k with
   | some s=>rfl
   | none =>
    have Q:=ub m p k;rw[Ο h] at Q;exact Q
theorem Ii{m:List ((Int×Int)×iI)}{p q:(Int×Int)×iI}(h:q∈R9 m p):q∈m\/(q=p/\p.2.D3≠[]):=by
 unfold R9 at h;split at h
 .exact .inl (List.mem_filter.1 h).1
 .rename_i h0;rcases L7 (tn q h) with I|I
  .grind
  grind
def pw{q:(Int×Int)×iI}:∀{n m:List ((Int×Int)×iI)},q∈iF m n->q∈m\/(q∈n/\q.2.D3≠[])
 | [],m,h=>.inl h
 | p::n,m,h=>by
  rcases pw (n:=n) (m:=R9 m p) h with I|I
  .rcases Ii I with Q|Q
   .exact .inl Q
   .exact .inr ⟨by rw[Q.1];exact au ..,by rw[Q.1];exact Q.2⟩
  .exact .inr ⟨az _ I.1,I.2⟩
theorem Fg(Ξ s:Nat)(m n:List (Int×Int)) :
  Υ Λ 77 #[.map (some Ξ),.map (some s)] [ew gT Qz Ξ m,ew gT Qz s n] (λ_ Ε=>∃m',(∀k,ε m' k=(ε n k).or (ε m k))/\Ε = [ew gT Qz Ξ m']):=by
 refine Υ.bd ?_;refine Β.cM E.swap ?_;refine Β.c8 (eN (b:=s) (kv:=gT) (Η:=Qz) (m:=n)) ?_;intro hn;refine ML ?_;intros;refine Y.ef (Ef.j5 rfl) ac ?_;rintro _ _⟨Δ,rfl,rfl⟩;refine ML ?_;intros;refine Β.loop (α:=List (Int×Int)) (λz=>z.length<=n.length) (λz=>[(0,.map (some Ξ)),(7,ay Δ)]) (λz=>[fZ gT Qz s n Δ z,ew gT Qz Ξ (im m z)]) (λz=>n.length - z.length) [] (aD _) aG (E.refl _) ?_;intro z hz;refine ML ?_;intros;refine Y.ef (Ef.j8 rfl) ac ?_;rintro _ _ (⟨rfl,rfl,hp⟩|⟨p,rfl,rfl,A,J,T⟩)
 .refine ML ?_;intros;refine KX.c8 aC E.drop ⟨im m z,λk=>?_,rfl⟩;grind [ou,ti]
 refine ML ?_;intros;refine Y.ev (Z.j7 (done:=z) rfl rfl) ac ?_;refine ML ?_;intros;refine Y.No (Ef.d9 (Η:=Qz) (e:=p.2) rfl rfl rfl rfl) ?_;rintro _ _ rfl;refine ML ?_;intros;refine⟨z++[p],by simp;omega,by simp;omega,aG,?_⟩;rw[show im m (z++[p])=ez (im m z) p.1 p.2 by simp[im]];exact aj
end
section
open Go.V
attribute [local irreducible] Β Y GP δ vi Z Ef C0 E CB GB Enters
open Classical in
def Ku{o p:Option Int}{Ξ:Int}:(o.or p).getD Ξ=o.getD (p.getD Ξ):=by cases o<;>rfl
end
section
open Go.V
attribute [local irreducible] Β Y GP δ vi Z Ef C0 E CB GB Enters
end
section
def II{u v y1 y0 hx:Nat}(hv:v<hx)(U:0<y1)(h0:0<hx):(u*hx+v) / (y1*hx+y0)<=u / y1:=by
 rw[Nat.le_div_iff_mul_le U];have hd:(u*hx+v) / (y1*hx+y0)*(y1*hx+y0)<=u*hx+v:=Nat.div_mul_le_self _ _;generalize (u*hx+v) / (y1*hx+y0)=q at *;have I:q*y1*hx<=q*(y1*hx+y0):=by rw[Nat.mul_add,Nat.mul_assoc];exact(by omega)
 have Q:q*y1*hx<(u+1)*hx:=by rw[Nat.add_mul];omega
 have h3:=Nat.lt_of_mul_lt_mul_right Q;omega
theorem CG{u v y1 y0 hx q Δ:Nat}(hr:u=q*y1+Δ)(h:q*y0<=hx*Δ+v):q*(y1*hx+y0)<=u*hx+v:=by
 subst hr;grind
theorem KE{u v y1 y0 hx q Δ:Nat}(hr:u=q*y1+Δ)(h:hx*Δ+v<q*y0)(U:0<y1*hx+y0):(u*hx+v) / (y1*hx+y0)<q:=by
 rw[Nat.div_lt_iff_lt_mul U];subst hr;grind
theorem sY{u v y hx:Nat}(hu:u<y)(hv:v<hx)(U:0<y):(u*hx+v) / y<hx:=by
 rw[Nat.div_lt_iff_lt_mul U];have I:(u+1)*hx<=y*hx:=Nat.mul_le_mul_right _ hu;grind
def IJ{u v y1 y0 hx q Δ:Nat}(hr:u=q*y1+Δ)(hB:hx<=Δ)(hq:q<=hx)(U:y0<hx):q*(y1*hx+y0)<=u*hx+v:=by
 refine CG hr ?_;have I:q*y0<=hx*y0:=Nat.mul_le_mul_right _ hq;have Q:hx*y0<=hx*Δ:=Nat.mul_le_mul_left _ (by omega);omega
def JE{n y q:Nat}(U:0<y)(I:n / y<=q)(Q:q*y<=n):q=n / y:=by
 have h3:q<=n / y:=(Nat.le_div_iff_mul_le U).2 Q;omega
end
section
open Go.V
theorem pu(l:π):∀i,i<=l.length->(List.range i).foldl (λs k=>s+l[k]!.2.2) 0=aW (l.take i):=by
 intro i;induction i with
 | zero=>intro _;simp[aW]
 | succ i ih =>
  grind [df,gB]
theorem nq(l:π):aW (l.take l.length)=aW l:=ah
theorem lz{l:π}(h:∀x∈l,a0 x){k:Nat}(hk:k<l.length):0<aW l:=by
 have I:=lA h k D;have Q:=gB l hk;have h3:=h _ (bI hk);unfold a0 at h3
 have h4:∀j,k+1<=j->j<=l.length->aW (l.take (k+1))<=aW (l.take j):=by
  intro j;induction j with
  | zero=>omega
  | succ j ih =>
   grind [gB,bI,a0]
 grind
theorem FH{l:π}{n:Int}(T:∀x∈l,a0 x)(h0:0<=n)(I:n<=aW l)(k:Nat)(hk:k<l.length):0<=PR l n k/\PR l n k<=l[k]!.2.2:=by
 have hs:=lz T hk;have hw:=T _ (bI hk);unfold a0 at hw;have a2:0<=Nd l n k:=jc (Int.mul_nonneg h0 D) D;unfold PR;rcases Int.lt_or_le n (aW l) with A|J
 .have a3:Nd l n k<l[k]!.2.2:=by
   unfold Nd;refine Int.ediv_lt_of_lt_mul hs ?_;rw[Int.mul_comm];exact Int.mul_lt_mul_of_pos_left A D
  omega
 .have hn:n=aW l:=D
  have a4:∀j,Nd l n j=l[j]!.2.2:=by
   intro j;unfold Nd;rw[hn];exact Int.mul_ediv_cancel_left _ D
  grind [iS,pu,nq]
def xN(mixed:Bool)(l:π)(n:Int)(T:∀x∈l,a0 x)(h0:0<=n)(I:n<=aW l)(k:Nat)(hk:k<l.length):0<=Q5 mixed l n k/\Q5 mixed l n k<=l[k]!.2.2:=by
 unfold Q5;split
 .exact FH T h0 I k hk
 .exact qW h0 (λx h=>(T x h).w) k hk
def SS(R:Nat->Int)(i j:Nat):Prop:=R j<R i\/(R i=R j/\i<j)
def kR(R:Nat->Int)(n k:Nat):Nat:=((List.range n).filter (λj=>decide (R k<R j\/(R j=R k/\j<k)))).length
theorem xY(l:π)(n:Int)(k:Nat):Jw l n k=kR (N4 l n) l.length k:=rfl
theorem oG{R:Nat->Int}{n:Nat}{o:List Nat}(hp:o.Perm (List.range n))(hs:o.Pairwise (SS R)){p:Nat}(h:p<o.length):kR R n o[p]=p:=by
 unfold kR;rw[<-(hp.filter _).length_eq];have A:=List.pairwise_iff_getElem.1 hs
 have e:o=o.take p++o[p]::o.drop (p+1):=by
  conv=>lhs;rw[<-cL p o,bZ h]
 have I:(o.take p).filter (λj=>decide (R o[p]<R j\/(R j=R o[p]/\j<o[p])))=o.take p:=by
  rw[List.filter_eq_self];intro x M;obtain⟨i,hi,rfl⟩:=List.mem_iff_getElem.1 M;rw[aP] at hi;rw[List.getElem_take];have:=A i p D h D
  simpa [SS] using this
 have Q:(o.drop (p+1)).filter (λj=>decide (R o[p]<R j\/(R j=R o[p]/\j<o[p])))=[]:=by
  rw[List.filter_eq_nil_iff];intro x M;obtain⟨i,hi,rfl⟩:=List.mem_iff_getElem.1 M;rw[cB] at hi;rw[List.getElem_drop];have:=A p (p+1+i) h D D
  unfold SS at this;simp only[decide_eq_true_eq];omega
 grind
theorem wm(R:Nat->Int)(n:Nat):∃o:List Nat,o.Perm (List.range n)/\o.Pairwise (SS R):=by
 refine⟨(List.range n).mergeSort (λi j=>decide (R j<R i\/(R i=R j/\i<=j))),List.mergeSort_perm _ _,?_⟩;have hp:=List.mergeSort_perm (List.range n) (λi j=>decide (R j<R i\/(R i=R j/\i<=j)));have A:=hp.nodup_iff.2 ah;grind [List.pairwise_mergeSort,List.pairwise_iff_getElem,SS]
theorem yh{R:Nat->Int}{n:Nat}{o:List Nat}(hp:o.Perm (List.range n))(hs:o.Pairwise (λa b=>¬(R a<R b\/(R a=R b/\b<a)))):o.Pairwise (SS R):=by
 grind [List.nodup_range,List.pairwise_iff_getElem,SS]
theorem lI{R:Nat->Int}{n:Nat}{o:List Nat}(hp:o.Perm (List.range n))(hs:o.Pairwise (SS R)){k m:Nat}(hk:k<n):k∈o.take m↔kR R n k<m:=by
 grind [List.mem_iff_getElem,oG]
theorem Lz{R:Nat->Int}{n i j:Nat}(hi:i<n)(hj:j<n)(h:kR R n i=kR R n j):i=j:=by
 obtain⟨o,hp,hs⟩:=wm R n;have A:i∈o:=ah;have J:j∈o:=ah;grind [List.mem_iff_getElem,oG]
def dL(n:Nat)(f:Nat->Int):Int:=(List.range n).foldl (λs k=>s+f k) 0
def mB(f:Nat->Int):dL 0 f=0:=rfl
theorem hZ(n:Nat)(f:Nat->Int):dL (n+1) f=dL n f+f n:=by
 grind [dL,df]
theorem rV{n:Nat}{f g:Nat->Int}(h:∀k,k<n->f k=g k):dL n f=dL n g:=by
 induction n with
 | zero=>rfl
 | succ n ih=>grind [hZ]
theorem vX(n:Nat)(f g:Nat->Int):dL n (λk=>f k+g k)=dL n f+dL n g:=by
 induction n with
 | zero=>rfl
 | succ n ih=>grind [hZ]
theorem FE(n:Nat)(f g:Nat->Int):dL n (λk=>f k - g k)=dL n f - dL n g:=by
 induction n with
 | zero=>rfl
 | succ n ih=>grind [hZ]
def vW(n:Nat)(c:Int)(f:Nat->Int):dL n (λk=>c*f k)=c*dL n f:=by
 induction n with
 | zero=>simp[mB]
 | succ n ih=>rw[hZ,hZ,ih,Int.mul_add]
theorem pf{n:Nat}{f g:Nat->Int}(h:∀k,k<n->f k<=g k):dL n f<=dL n g:=by
 induction n with
 | zero=>exact bE _
 | succ n ih=>grind [hZ]
theorem rU(n:Nat)(c:Int):dL n (λ_=>c)=n*c:=by
 induction n with
 | zero=>simp[mB]
 | succ n ih=>grind [hZ]
theorem vF{f:Nat->Int}{l l' : List Nat}(h:l.Perm l'):∀s:Int,l.foldl (λs k=>s+f k) s=l'.foldl (λs k=>s+f k) s:=by
 induction h with
 | nil=>omega
 | cons x _ ih=>grind
 | swap x y l=>grind
 | trans _ _ ih1 ih2=>grind
theorem Id(R:Nat->Int){n m:Nat}(hm:m<=n):dL n (λk=>if kR R n k<m then 1 else 0)=m:=by
 obtain⟨o,hp,hs⟩:=wm R n;have T:o.length=n:=by have:=hp.length_eq;simpa using this
 unfold dL;rw[<-vF hp]
 have h:∀q,q<=n->(o.take q).foldl (λ (s:Int) k=>s+if kR R n k<m then 1 else 0) 0=min q m:=by
  intro q;induction q with
  | zero=>intro _;simp
  | succ q ih =>
   grind [aB,oG]
 have Q:=h n D;grind
theorem uy(l:π):aW l=dL l.length (λk=>l[k]!.2.2):=by
 grind [dL,pu,nq]
def qt(l:π)(n:Int):iS l n=n - dL l.length (Nd l n):=rfl
theorem we{l:π}{n:Int}(T:∀x∈l,a0 x)(h0:l≠[]):0<=iS l n/\iS l n<l.length:=by
 have A:0<l.length:=ah;have hs:=lz T A
 have I:dL l.length (λk=>aW l*Nd l n k+N4 l n k)=dL l.length (λk=>n*l[k]!.2.2) :=
  rV (λk _=>by unfold Nd N4;exact Int.mul_ediv_add_emod _ _)
 rw[vX,vW,vW,<-uy] at I
 have Q:dL l.length (N4 l n)<=dL l.length (λ_=>aW l - 1):=pf (λk _=>by
  have:=dA (n*l[k]!.2.2) hs
  unfold N4;omega)
 have h3:dL l.length (λ_=>(0:Int))<=dL l.length (N4 l n):=pf (λk _=>ft _ D);rw[rU] at Q h3
 have h4:aW l*iS l n=dL l.length (N4 l n):=by
  rw[qt,Int.mul_sub];rw[Int.mul_comm (aW l) n];omega
 have h5:0<=aW l*iS l n:=by rw[h4];omega
 have h6:aW l*iS l n<aW l*l.length:=by
  rw[h4]
  have:(l.length:Int)*(aW l - 1)<aW l*l.length:=by
   rw[Int.mul_sub,Int.mul_one,Int.mul_comm];omega
  omega
 exact⟨Int.nonneg_of_mul_nonneg_right h5 hs,Int.lt_of_mul_lt_mul_left h6 D⟩
theorem Kc{l:π}{n:Int}(T:∀x∈l,a0 x)(h0:l≠[]):dL l.length (PR l n)=n:=by
 obtain⟨I,Q⟩:=we (n:=n) T h0;have e:dL l.length (PR l n)=dL l.length (λk=>Nd l n k+(if kR (N4 l n) l.length k<(iS l n).toNat then 1 else 0)):=by grind [rV,PR,xY]
 rw[e,vX,Id _ D,qt] at *;omega
theorem KR(l:π)(m:Int):∀k,QO l m k=m - dL k (PI l m):=by
 intro k;induction k with
 | zero=>simp[QO,mB]
 | succ k ih =>
  grind [hZ,QO,PI]
theorem KS{l:π}{m:Int}(T:∀x∈l,a0 x)(h0:0<=m)(I:m<=aW l):dL l.length (PI l m)=m:=by
 have Q:∀k,k<=l.length->QO l m k=max 0 (m - aW (l.take k)):=by
  intro k;induction k with
  | zero=>intro _;simp[QO,aW];omega
  | succ k ih =>
   grind [bI,a0,QO,gB]
 grind [KR]
theorem JW{mixed:Bool}{l:π}{n:Int}(T:∀x∈l,a0 x)(h0:0<=n)(I:n<=aW l):dL l.length (Q5 mixed l n)=n:=by
 grind [Q5,Kc,aW,KS]
theorem gF(a b:π):aW (a++b)=aW a+aW b:=by
 have h:∀(l:π) (s:Int),l.foldl (λs x=>s+x.2.2) s=s+l.foldl (λs x=>s+x.2.2) 0:=by
  intro l;induction l with
  | nil=>intro s;simp
  | cons x l ih=>grind
 unfold aW;grind
theorem ga(x:iK):aW [x]=x.2.2:=by simp[aW]
theorem pG(l:π)(x:iK):aW (bF l x)=aW l+x.2.2:=by
 unfold bF;split
 .omega
 .split
  .rename_i h;obtain⟨I,_⟩:=h
   have e:l=l.take (l.length - 1)++[l[l.length - 1]!]:=by
    conv=>lhs;rw[<-cL (l.length - 1) l,bZ D,bV D]
    rw[E7 D]
   have e2:l.set (l.length - 1) (l[l.length - 1]!.1,l[l.length - 1]!.2.1,l[l.length - 1]!.2.2+x.2.2)=l.take (l.length - 1)++[(l[l.length - 1]!.1,l[l.length - 1]!.2.1,l[l.length - 1]!.2.2+x.2.2)]:=by
    rw[List.set_eq_take_append_cons_drop,Ω D,bV D]
   have e3:aW l=aW (l.take (l.length - 1))+l[l.length - 1]!.2.2:=by
    conv=>lhs;rw[e]
    rw[gF,ga]
   grind [gF,ga]
  .rw[gF,ga]
def Je(l:π)(cs:Nat->Int)(m:Nat):aW (Pu l cs m)=dL m (λk=>l[k]!.2.2 - cs k):=by
 induction m with
 | zero=>rfl
 | succ m ih=>rw[wR,pG,ih,hZ];rfl
def Gu{mixed:Bool}{l:π}{n:Int}(T:∀x∈l,a0 x)(h0:0<=n)(I:n<=aW l):aW (jF mixed l n)=aW l - n:=by
 unfold jF;rw[Je,FE,JW T h0 I,<-uy]
