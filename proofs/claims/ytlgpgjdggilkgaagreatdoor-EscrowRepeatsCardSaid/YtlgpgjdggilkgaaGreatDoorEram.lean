/- Lemmas. -/
import Derived.Test.YtlgpgjdggilkgaaGreatDoorEral
set_option linter.all false
namespace Go.Proofs.YtlgpgjdggilkgaaGreatDoor
section
open Go.V
attribute [local irreducible] Δ R GP Ο h2 O Ef A8 A CB GB Enters
structure D9 where
 F:Int
 step:Int
 Κ:Int
 G:Int
 MB:Int
 Ψ:Int
 to:Int
 aT:Int
 n:Int
 Ζ:LL
 made:List Int
 deriving Inhabited,DecidableEq
structure JX where
 m:D9
 pad:OA
 F6:Nat
 cU:OA
 fH:Nat
 deriving Inhabited
def ee(f:JX):LV:=[E f.m.F,E f.m.step,E f.m.Κ,E f.m.G,E f.m.MB,E f.m.Ψ,E f.m.to,E f.m.aT,E f.m.n,ae f.pad f.m.Ζ.length f.F6,ae f.cU f.m.made.length f.fH]
def mA(t:JX):∀u∈ee t,u.oneCell' = true:=by simp[ee,Value.oneCell']
instance:Mf ee:=⟨mA⟩
def Kw(f:JX):HP:=Nf (ε aI 3 f.pad f.m.Ζ) (ε (a0 .i64) 1 f.cU f.m.made)
def ud(f:JX):JJ (Kw f):=(cA _ _ _ _).and (cA _ _ _ _)
def eJ(s:E8):HP:=Nf (stM s) (IK s)
def px(s:E8):JJ (eJ s):=(Ap s).and (eg iN)
structure Χ where
 kQ:Int
 ζ:D4
 ο:Int->Int->LL
 gr:Int->Int
 hx:List C8
 Ι:List D9
 imp:Int->LL
 ret:Int->LL
 vs:OA×List E8:=(none,[])
 vf:OA×List JX:=(none,[])
def Χ.view(S:Χ)(v:OA×List E8)(w:OA×List JX):Χ:={ S with vs:=v,vf:=w }
structure Jl where
 ζ:Iq
 T:Nat
 mt:Nat
 mi:Nat
 mr:Nat
 ο:List ((Int×Int)×ey)
 gr:List (Int×Int)
 imp:List (Int×ey)
 ret:List (Int×ey)
 hx:List E8
 B8:OA
 IT:Nat
 Ι:List JX
 A7:OA
 C4:Nat
 sv:OA×List E8
 fv:OA×List JX
abbrev MR:Nat:=130
abbrev gJ:Nat:=87
abbrev fS:Nat:=45
def eO{κ:Type}[DecidableEq κ](m:List (κ×ey))(k:κ):ey:=(dV m k).getD ⟨none,0,[]⟩
structure Qr (S:Χ) (x:Jl):Prop where
 ζ:x.ζ.m=S.ζ
 Ob:x.ζ.cq
 ο:∀a i,(eO x.ο (a,i)).C0=S.ο a i
 full:∀p∈x.ο,p.2.C0≠[]
 gr:∀i,(dV x.gr i).getD 0=S.gr i
 hx:x.hx.map E8.m=S.hx
 Ι:x.Ι.map (·.m)=S.Ι
 imp:∀i,(eO x.imp i).C0=S.imp i
 ret:∀i,(eO x.ret i).C0=S.ret i
 vw:x.sv=S.vs/\x.fv=S.vf
structure Χ.Ok (S:Χ):Prop where
 kQ:0<=S.kQ/\S.kQ<12
 hx:S.hx.length<=65536
 Ι:S.Ι.length<=64*S.hx.length
 ο:∀a i,(S.ο a i).length<=4096/\∀l∈S.ο a i,π l
 gr:∀i,-((S.Ι.length:Int)*1099511627776)<=S.gr i/\S.gr i<=1099511627776
abbrev bV(d:Int)(x:Jl):LV:=[E d,ae x.ζ.F3 x.ζ.B5.length x.ζ.G3,ae x.ζ.JK 0 x.ζ.JL,ae x.ζ.MP 0 x.ζ.MQ,ae x.ζ.Ng 0 x.ζ.Nh,.map (some x.T),.map (some x.mt),ae x.B8 x.hx.length x.IT,ae x.A7 x.Ι.length x.C4,.map (some x.mi),.map (some x.mr)]
abbrev B1(b:Nat)(d:Int)(x:Jl)(L:LH):LH :=
 obj b MR (bV d x)::τ B7 ey.v x.T x.ο::τ cu KH x.mt x.gr::JF da 7 gJ x.B8 x.IT x.hx x.sv::JF ee 11 fS x.A7 x.C4 x.Ι x.fv::τ cu ey.v x.mi x.imp::τ cu ey.v x.mr x.ret::JU x.ζ::Ρ (λp:(Int×Int)×ey=>E7 p.2) x.ο::Ρ eJ x.hx::Ρ Kw x.Ι::Ρ (λp:Int×ey=>E7 p.2) x.imp::Ρ (λp:Int×ey=>E7 p.2) x.ret::L
def I2(d:Int)(c:D4):Χ:=⟨d,c,λ_ _=>[],λ_=>0,[],[],λ_=>[],λ_=>[],(none,[]),(none,[])⟩
def Χ.now(S:Χ):Int:=(S.hx.getLast?.map (·.G)).getD 0
abbrev AL:=Uy [.ev 13]
def Iw{φ ψ:Prop}(k:ψ)(h:Hid ψ->φ:=by intro k;(repeat (first|refine aa ?_|intro sh|refine Δ.dr 22 3 AL ?_));(repeat revert sh);exact Hid.out k):φ:=h ⟨k⟩
def Dd{L Α:LH}{b:Nat}{d:Int}{x:Jl}[hp:KP L b MR (bV d x) Α][hr:C7 L x.B8 E8 da 7 x.hx](hl:x.hx.length<=100000) :
  Λ Ε 189 #[al b] L (C9 (E ((x.hx.getLast?.map (·.G)).getD 0)) L):=by
 refine Λ.bd ?_;by_cases h0:x.hx.length=0
 .refine Iw ?_;intros;exact KX.a8 aw (A.refl _) ⟨by rw[bG h0];rfl,rfl⟩
 .refine Iw ?_;intros;refine KX.a8 aw (A.refl _) ⟨?_,rfl⟩
  have e:x.hx.getLast? = some x.hx[((x.hx.length:Int) - 1).toNat]!:=by
   rw[show((x.hx.length:Int) - 1).toNat=x.hx.length - 1 by omega,List.getLast?_eq_getElem?,C5 B,List.getElem?_eq_getElem]
  rw[e];rfl
def K7(n:Int):Prop:=0<=n/\n<=1073741824
instance:DecidablePred K7:=λn=>by unfold K7;infer_instance
def nH{L:LH}(n:Int):Λ Ε 188 #[E n] L (C9 (.bool (dB (K7 n))) L):=by
 refine Λ.bd ?_;by_cases J:0<=n
 .by_cases U:n<=1073741824
  .refine Ih ?_;intros;exact KX.a8 aw (A.refl _) ⟨by rw[bI U,bI (show K7 n from⟨J,U⟩)];rfl,rfl⟩
  .refine Ih ?_;intros;exact KX.a8 aw (A.refl _) ⟨by rw[bj U,bj (λh:K7 n=>U h.2)];rfl,rfl⟩
 .refine Ih ?_;intros;exact KX.a8 aw (A.refl _) ⟨by rw[bj (λh:K7 n=>J h.1)];rfl,rfl⟩
def Po(f:FuncId)(p:Int->Bool):Prop:=∀(n:Int) (L:LH),Λ Ε f #[E n] L (C9 (.bool (p n)) L)
def mD:Po 269 (λn=>dB (n=0)):=by
 intro n L;refine Λ.bd (args:=[E n]) ?_;refine Ih ?_;intros;exact KX.en ⟨rfl,rfl⟩
def jH:Po 270 (λn=>dB (¬n=0)):=by
 intro n L;refine Λ.bd (args:=[E n]) ?_;refine Ih ?_;intros;exact KX.en ⟨rfl,rfl⟩
def Hh(n:Int):Prop:=1<=n/\n<=1048576
def jR(Ip J4:Int):Prop:=Ip = -1/\J4=0
instance (a b:Int):Decidable (jR a b):=by unfold jR;infer_instance
def vV{L:LH}(b:Nat)(s:E8):Λ Ε 271 #[al b,bh (da s)] L (C9 (.bool (dB (jR s.Ip s.J4))) L):=by
 refine Λ.bd ?_;by_cases J:s.Ip = -1
 .by_cases U:s.J4=0
  .refine Ih ?_;intros;exact KX.a8 aw ag ⟨by rw[bI U,bI (show jR s.Ip s.J4 from⟨J,U⟩)];rfl,rfl⟩
  .refine Ih ?_;intros;exact KX.a8 aw ag ⟨by rw[bj U,bj (λh:jR s.Ip s.J4=>U h.2)];rfl,rfl⟩
 .refine Ih ?_;intros;exact KX.a8 aw ag ⟨by rw[bj (λh:jR s.Ip s.J4=>J h.1)];rfl,rfl⟩
def QY(l:List (Int×Int)):Prop:=∀a∈l,0<=a.2/\a.2<=1099511627776
structure D4.Ok (c:D4):Prop where
 take:∀Θ∈c.rules,QY Θ.take
 QV:∀Θ∈c.rules,QY Θ.QV
 back:∀Θ∈c.rules,QY Θ.back
def iq(Ip:Int):Int:=if Ip < -1 then -2 - Ip else Ip
def wo(Θ:Pj)(Ip:Int):List (Int×Int):=if Ip < -1 then Θ.back else Θ.QV
def Hi(T:List A9)(J4:Int)(a:Int×Int)(m:A9):Prop:=m.Ψ=T[0]!.Ψ/\m.to=0/\m.aT=a.1/\m.n=a.2*J4
def HA(t0 J4:Int)(a:Int×Int)(m:A9):Prop:=m.Ψ=0/\m.to=t0/\m.aT=a.1/\m.n=a.2*J4
def DW(rules:List Pj)(Ip J4:Int)(T:List A9):Prop :=
 (0<=iq Ip/\iq Ip<rules.length)/\Hh J4/\rules[(iq Ip).toNat]!.spawn=false/\¬(Ip < -1/\rules[(iq Ip).toNat]!.TG >= rules[(iq Ip).toNat]!.TH) /\
 T.length=rules[(iq Ip).toNat]!.take.length+(wo rules[(iq Ip).toNat]! Ip).length /\
 (∀i:Nat,i<rules[(iq Ip).toNat]!.take.length->Hi T J4 rules[(iq Ip).toNat]!.take[i]! T[i]!) /\
 (∀i:Nat,i<(wo rules[(iq Ip).toNat]! Ip).length->HA (T[rules[(iq Ip).toNat]!.take.length]!).to J4 (wo rules[(iq Ip).toNat]! Ip)[i]! T[rules[(iq Ip).toNat]!.take.length+i]!)
instance:Inhabited A9:=inferInstance
def Hy(k:Int):Prop:=k=0\/k=1\/k=6\/k=2\/k=3\/k=8\/k=4
def Ni(x:Jl):Int:=(x.hx.getLast?.map (·.G)).getD 0
abbrev FC:Nat:=299
theorem vO{l:LL}{x:gq}(h:∀y∈l,π y)(K:H8 x):∀y∈bz l x,π y:=by
 grind [bz,H8,N7,bA,π]
theorem kl{D:LL}:∀{l:LL},(∀y∈l,π y)->(∀y∈D,H8 y)->∀y∈D.foldl bz l,π y:=by
 induction D with
 | nil=>grind
 | cons x D ih=>grind [vO,az]
def DN{l:LL}{cs:Nat->Int}(hw:∀x∈l,π x)(hc:∀k,k<l.length->0<=cs k/\cs k<=l[k]!.2.2):(∀x∈K1 l cs l.length,π x)/\∀x∈KR l cs l.length,π x:=by
 refine⟨kl bR ?_,kl bR ?_⟩
 all_goals
  intro y Z
  obtain⟨k,hk,rfl⟩:=IY Z
  have hk:=List.mem_range.1 hk
 .exact(PU hk (λx h=>(hw x h).w) (hc k hk)).1
 .exact(PU hk (λx h=>(hw x h).w) (hc k hk)).2
abbrev AK:List Im:=[.ev 0,.ev 2,.ef 1,.ef 3,.ev 4]
def gx{φ ψ:Prop}(k:ψ)(h:Hid ψ->φ:=by intro k;first|refine R.ci (f:=116) (Hid.out k)|refine Ο.ci (f:=116) (Hid.out k)|refine R.cf (f:=116) rfl (Hid.out k)|refine Ο.cf (f:=116) rfl (Hid.out k)|refine KX.Nc (Hid.out k)):φ:=h ⟨k⟩
def gw{φ ψ:Prop}(k:ψ)(h:Hid ψ->φ:=by intro k;(with_reducible apply Δ.a8);first|refine Δ.dr 17 3 AK (Hid.out k)):φ:=h ⟨k⟩
def Uq{φ ψ:Prop}(k:ψ)(h:Hid ψ->φ:=by intro k;(repeat (first|refine aa ?_|intro sh|refine gw ?_|refine gx ?_));(repeat revert sh);exact Hid.out k):φ:=h ⟨k⟩
def Dk{L:LH}(M:OA)(cap:Nat)(D:LL)(x:gq)(hl:D.length<=4096)(a4:∀l∈D,π l)(K:π x) :
  Λ Ε 195 #[ae M D.length cap,bh (aI x)] (ε aI 3 M D::L) (λv Y=>∃a3 r,v=ae a3 (bz D x).length r/\Y = Υ aI 3 G1 a3 r (bz D x)::ε aI 3 M D::L):=by
 have a7:=K;obtain⟨o1,o2,o3,o4,o5⟩:=a7;refine Λ.bd ?_;refine Uq ?_;intros;refine R.cr (jp M D.length cap D rfl hl a4) ?_;refine Uq ?_;intros;rw[bI o5];refine Uq ?_;intros;refine Ο.ca (gV M D.length cap D rfl B) ?_;rintro _ _⟨a5,I,rfl,rfl⟩;refine Uq ?_;intros;refine Ο.ca (oQ a5 I D x B (λy h=>(a4 y h).w) K.w) ?_;rintro _ _⟨a6,a2,rfl,rfl⟩;refine Uq ?_;intros;exact KX.en ⟨a6,a2,rfl,rfl⟩
def IZ(l:LL)(n:Int)(k:Nat):Int:=n*l[k]!.2.2 / dU l
def JM(l:LL)(n:Int)(k:Nat):Int:=n*l[k]!.2.2 % dU l
def FD(l:LL)(n:Int)(k:Nat):Nat:=((List.range l.length).filter (λj=>decide (JM l n k<JM l n j\/(JM l n j=JM l n k/\j<k)))).length
def gX(l:LL)(n:Int):Int:=n - (List.range l.length).foldl (λs k=>s+IZ l n k) 0
def K8(l:LL)(n:Int)(k:Nat):Int:=IZ l n k+(if(FD l n k:Int)<gX l n then 1 else 0)
def Mj(mixed:Bool)(l:LL)(n:Int):Nat->Int:=if mixed=true/\0<n then K8 l n else K2 l n
def lE(mixed:Bool)(l:LL)(n:Int):LL:=K1 l (Mj mixed l n) l.length
def iO(mixed:Bool)(l:LL)(n:Int):LL:=KR l (Mj mixed l n) l.length
structure OT (mixed:Bool):Prop where
 bd:∀(l:LL) (n:Int),(∀x∈l,π x)->0<=n->n<=dU l->∀k,k<l.length->0<=Mj mixed l n k/\Mj mixed l n k<=l[k]!.2.2
 tri:∀(L:LH) (M:OA) (c:Nat) (D:LL) (n:Int),D.length<=4096->(∀l∈D,π l)->0<=n->n<=1099511627776 ->
  Λ Ε 300 #[ae M D.length c,E n,.bool mixed] (ε aI 3 M D::L) (λv Y =>
   (dU D<n/\v=.tuple #[ae none 0 0,ae none 0 0,E 10]/\Y = ε aI 3 M D::L) \/
   (n<=dU D/\∃PZ c1 P0 c2,v=.tuple #[ae PZ (lE mixed D n).length c1,ae P0 (iO mixed D n).length c2,E 0]/\Y = Υ aI 3 G1 PZ c1 (lE mixed D n)::Υ aI 3 G1 P0 c2 (iO mixed D n)::ε aI 3 M D::L))
def xt:OT false where
 bd:=λl n hl h0 _ k hk=>oU h0 (λx h=>(hl x h).w) k hk
 tri:=λ_ M c D n J U h3 h4=>Am M c D n false rfl J U h3 h4
structure QZ where
 cs:Nat
 ct:Nat
 ci:Nat
 cr:Nat
 ο:List ((Int×Int)×ey)
 gr:List (Int×Int)
 Ι:List JX
 A7:OA
 C4:Nat
 JG:List Int
 Kk:OA
 Kl:Nat
abbrev Q0:Nat:=178
def Q2(x:Jl)(z:QZ)(k:Int×Int):ey:=(dV z.ο k).getD (eO x.ο k)
def rY{κ:Type}[DecidableEq κ](m:List (κ×ey))(k:κ):((@List.lookup _ _ instBEqOfDecidableEq k m).map ey.v).getD (ae none 0 0)=(eO m k).v:=by
 unfold eO dV;cases @List.lookup _ _ instBEqOfDecidableEq k m<;>rfl
def sT{κ:Type}[DecidableEq κ]{m:List (κ×ey)}(k:κ){L:LH}:A (Ρ (λp:κ×ey=>E7 p.2) m::L) (E7 (eO m k)::Ρ (λp:κ×ey=>E7 p.2) m::L):=by
 unfold eO;cases h:dV m k with
 | none=>exact A.f5 aI 3 none
 | some s=>exact A.d8 (f:=λp:κ×ey=>E7 p.2) (x:=(k,s)) (bT h)
structure XM (x:Jl) (z:QZ) (m:A9):Prop where
 aT:0<=m.aT/\m.aT<x.ζ.B5.length
 n:0<=m.n/\m.n<=1099511627776
 Ζ:m.Ζ.length=0
 len:(Q2 x z (m.Ψ,m.aT)).C0.length<=4096
 C0:∀l∈(Q2 x z (m.Ψ,m.aT)).C0,π l
def cD(x:Jl)(i:Int):Bool:=x.ζ.B5[i.toNat]!.mixed
structure Wk where
 ο:Int->Int->LL
 gr:Int->Int
 Ι:List D9
 JG:List Int
def K9{α:Type}(f:Int->Int->α)(a i:Int)(v:α):Int->Int->α:=λa' i'=>if a' = a/\i' = i then v else f a' i'
def dj(W:Wk)(m:A9):Int:=W.gr m.aT+(if m.Ψ=0 then m.n else 0) - (if m.to=0 then m.n else 0)
def dZ(d:Int)(nf:Nat)(W:Wk):Int:=d*4294967296+nf+W.Ι.length
def jW(s:C8)(W:Wk)(m:A9):List Int:=if m.Ψ=0/\(s.Κ=4\/s.Κ=10) then W.JG else[]
structure XN (x:Jl) (z:QZ) (W:Wk):Prop where
 ο:∀a i,(Q2 x z (a,i)).C0=W.ο a i
 gr:∀i,(dV z.gr i).getD ((dV x.gr i).getD 0)=W.gr i
 Ι:z.Ι.map JX.m=W.Ι
 JG:z.JG=W.JG
structure Wk.Ok (nf:Nat) (W:Wk):Prop where
 ο:∀a i,(W.ο a i).length<=4096/\∀l∈W.ο a i,π l
 gr:∀i,-(((nf:Int)+W.Ι.length)*1099511627776)<=W.gr i/\W.gr i<=1099511627776
 JG:W.JG.length<=W.Ι.length
def tU{L:LH}(M:OA)(n c:Nat)(D:List Int)[C7 L M Int (a0 .i64) 1 D](hn:n=D.length)(hb:n<=1000000) :
  Λ Ε 115 #[ae M n c] L (λv Y=>∃I r,v=ae I D.length r/\Y = Υ (a0 .i64) 1 kR I r D::L):=by
 refine Λ.bd ?_;repeat' first|refine aa ?_|intro _|with_reducible refine CB.dec (λ_=>?_) (λ_=>?_)|with_reducible refine GB.dec (λ_=>?_) (λ_=>?_)|with_reducible refine CB.bool (λ_=>?_) (λ_=>?_)|with_reducible refine GB.bool (λ_=>?_) (λ_=>?_)
 .have h:M=none:=by assumption
  subst h;refine KX.f9 (.inl rfl) (mT (L:=L) (D:=D)) ?_;intro K;subst K;refine KX.a8 aw (A.c8 (a0 .i64) 1 kR) ⟨_,_,rfl,rfl⟩
 .refine R.υ (A.d9 (Β:=a0 .i64) (sz:=1) (D:=[]) rfl rfl bR bR) ?_;refine R.ef (Ef.c9 rfl rfl rfl rfl hn (λe _=>by simp[a0,Value.oneCell']) gg gg) ac ?_;rintro _ _⟨I,r,rfl,rfl⟩;refine Ih ?_;intros;refine KX.a8 aw (A.refl _) ⟨I,r,rfl,rfl⟩
structure XO (x:Jl) (m:A9):Prop where
 aT:0<=m.aT/\m.aT<x.ζ.B5.length
 n:1<=m.n/\m.n<=1099511627776
 Ψ:K7 m.Ψ
 to:K7 m.to
 ne:m.Ψ≠m.to
 Ζ:m.Ζ.length=0
def HQ(m:List (Int×Int))(k Ξ:Int):((@List.lookup _ _ instBEqOfDecidableEq k m).map KH).getD (E Ξ)=E ((dV m k).getD Ξ):=by
 unfold dV;cases @List.lookup _ _ instBEqOfDecidableEq k m<;>rfl
abbrev Ll(f:D9)(pad:OA)(F6:Nat)(cU:OA)(fH:Nat):JX:=⟨f,pad,F6,cU,fH⟩
def C8.at(s:C8)(F:Int):C8:={ s with F:=F }
def E8.at(s:E8)(F:Int):E8:={ s with F:=F }
def Jm(S:Χ):Wk:=⟨S.ο,S.gr,[],[]⟩
structure XP (s:E8):Prop where
 Κ:Hy s.Κ
 len:s.cM.length<=1000000
 cap:s.cM.length<=s.fH
 Ip:id s.Ip
 Ζ:∀m∈s.cM,m.m.Ζ.length<=1000000
def cp(S:Χ):Int:=S.kQ*4294967296+(S.hx.length:Int)
def fm(c:D4)(i:Int):Bool:=c.B5[i.toNat]!.mixed
section plain
variable {κ α:Type}[DecidableEq κ]
theorem qB(p:κ×α)(l:List (κ×α))(k:κ):dV (p::l) k=if k=p.1 then some p.2 else dV l k:=by
 grind [dV]
theorem dg(m:List (κ×α))(k q:κ)(a:α):dV (fc m k a) q=if q=k then some a else dV m q:=mH
theorem Fh(m:List (κ×α))(k q:κ):dV (GO m k) q=if q=k then none else dV m q:=yH
theorem wm{l:List (κ×α)}{k:κ}(h:k∉l.map (·.1)):dV l k=none:=by
 induction l with
 | nil=>rfl
 | cons p l ih =>
  grind [qB]
theorem qz{l l' : List (κ×α)}(hp:l.Perm l')(hn:(l'.map (·.1)).Nodup)(k:κ):dV l k=dV l' k:=by
 have r:(l.map (·.1)).Nodup:=ay;cases h:dV l k with
 | some a=>exact(gP hn (hp.mem_iff.1 (bT h))).symm
 | none =>
  grind [dV]
def gD(m n:List (κ×α)):List (κ×α):=n.foldl (λm p=>fc m p.1 p.2) m
theorem mI(k:κ):∀(n m:List (κ×α)),(n.map (·.1)).Nodup->dV (gD m n) k=(dV n k).or (dV m k)
 | [],m,_=>rfl
 | p::n,m,hn=>by
  simp only[aF,el] at hn;have ih:=mI k n (fc m p.1 p.2) hn.2;have e:gD m (p::n)=gD (fc m p.1 p.2) n:=rfl;rw[e,ih,qB,dg];by_cases h:k=p.1
  .rw[μ h,μ h,wm (h▸hn.1)];rfl
  .rw[Ω h,Ω h]
end plain
def Nj(m:List ((Int×Int)×ey))(p:(Int×Int)×ey):List ((Int×Int)×ey):=if p.2.C0.length=0 then GO m p.1 else fc m p.1 p.2
def gR(m n:List ((Int×Int)×ey)):List ((Int×Int)×ey):=n.foldl Nj m
theorem rb(m:List ((Int×Int)×ey))(p:(Int×Int)×ey)(k:Int×Int):(eO (Nj m p) k).C0=if k=p.1 then p.2.C0 else(eO m k).C0:=by
 grind [eO,Nj,Fh,dg]
def oq(k:Int×Int):∀(n m:List ((Int×Int)×ey)),(n.map (·.1)).Nodup->(eO (gR m n) k).C0=((dV n k).getD (eO m k)).C0
 | [],m,_=>rfl
 | p::n,m,hn=>by
  simp only[aF,el] at hn;have ih:=oq k n (Nj m p) hn.2;have e:gR m (p::n)=gR (Nj m p) n:=rfl;rw[e,ih,qB];by_cases h:k=p.1
  .rw[μ h,wm (h▸hn.1)];have U:=rb m p k;rw[μ h] at U;exact U
  .rw[Ω h];cases dV n k with
   | some s=>rfl
   | none =>
    have U:=rb m p k;rw[Ω h] at U;exact U
theorem EH{m:List ((Int×Int)×ey)}{p q:(Int×Int)×ey}(h:q∈Nj m p):q∈m\/(q=p/\p.2.C0≠[]):=by
 unfold Nj at h;split at h
 .exact .inl (List.mem_filter.1 h).1
 .rename_i h0;rcases Jr (qC q h) with J|J
  .grind
  grind
def nu{q:(Int×Int)×ey}:∀{n m:List ((Int×Int)×ey)},q∈gR m n->q∈m\/(q∈n/\q.2.C0≠[])
 | [],m,h=>.inl h
 | p::n,m,h=>by
  rcases nu (n:=n) (m:=Nj m p) h with J|J
  .rcases EH J with U|U
   .exact .inl U
   .exact .inr ⟨by rw[U.1];exact az ..,by rw[U.1];exact U.2⟩
  .exact .inr ⟨aB _ J.1,J.2⟩
theorem Cg(Ξ s:Nat)(m n:List (Int×Int)) :
  Λ Ε 77 #[.map (some Ξ),.map (some s)] [τ cu KH Ξ m,τ cu KH s n] (λ_ Y=>∃m',(∀k,dV m' k=(dV n k).or (dV m k))/\Y = [τ cu KH Ξ m']):=by
 refine Λ.bd ?_;refine Δ.υ A.swap ?_;refine Δ.c9 (dR (b:=s) (kv:=cu) (Β:=KH) (m:=n)) ?_;intro hn;refine Ih ?_;intros;refine R.ef (Ef.j6 rfl) ac ?_;rintro _ _⟨Θ,rfl,rfl⟩;refine Ih ?_;intros;refine Δ.loop (α:=List (Int×Int)) (λz=>z.length<=n.length) (λz=>[(0,.map (some Ξ)),(7,al Θ)]) (λz=>[ft cu KH s n Θ z,τ cu KH Ξ (gD m z)]) (λz=>n.length - z.length) [] (aC _) aA (A.refl _) ?_;intro z hz;refine Ih ?_;intros;refine R.ef (Ef.j8 rfl) ac ?_;rintro _ _ (⟨rfl,rfl,hp⟩|⟨p,rfl,rfl,r,I,hl⟩)
 .refine Ih ?_;intros;refine KX.c8 aw A.drop ⟨gD m z,λk=>?_,rfl⟩;grind [mI,qz]
 refine Ih ?_;intros;refine R.ev (O.j6 (done:=z) rfl rfl) ac ?_;refine Ih ?_;intros;refine R.I1 (Ef.f5 (Β:=KH) (e:=p.2) rfl rfl rfl rfl) ?_;rintro _ _ rfl;refine Ih ?_;intros;refine⟨z++[p],by simp;omega,by simp;omega,aA,?_⟩;rw[show gD m (z++[p])=fc (gD m z) p.1 p.2 by simp[gD]];exact ag
end
section
open Go.V
attribute [local irreducible] Δ R GP Ο h2 O Ef A8 A CB GB Enters
open Classical in
def Gr{o p:Option Int}{Ξ:Int}:(o.or p).getD Ξ=o.getD (p.getD Ξ):=by cases o<;>rfl
end
section
open Go.V
attribute [local irreducible] Δ R GP Ο h2 O Ef A8 A CB GB Enters
end
section
def Fa{u v y1 y0 cq:Nat}(hv:v<cq)(Z:0<y1)(h0:0<cq):(u*cq+v) / (y1*cq+y0)<=u / y1:=by
 rw[Nat.le_div_iff_mul_le Z];have hd:(u*cq+v) / (y1*cq+y0)*(y1*cq+y0)<=u*cq+v:=Nat.div_mul_le_self _ _;generalize (u*cq+v) / (y1*cq+y0)=q at *;have J:q*y1*cq<=q*(y1*cq+y0):=by rw[Nat.mul_add,Nat.mul_assoc];exact(by omega)
 have U:q*y1*cq<(u+1)*cq:=by rw[Nat.add_mul];omega
 have h3:=Nat.lt_of_mul_lt_mul_right U;omega
theorem zJ{u v y1 y0 cq q Θ:Nat}(hr:u=q*y1+Θ)(h:q*y0<=cq*Θ+v):q*(y1*cq+y0)<=u*cq+v:=by
 subst hr;grind
theorem GC{u v y1 y0 cq q Θ:Nat}(hr:u=q*y1+Θ)(h:cq*Θ+v<q*y0)(Z:0<y1*cq+y0):(u*cq+v) / (y1*cq+y0)<q:=by
 rw[Nat.div_lt_iff_lt_mul Z];subst hr;grind
theorem qw{u v y cq:Nat}(hu:u<y)(hv:v<cq)(Z:0<y):(u*cq+v) / y<cq:=by
 rw[Nat.div_lt_iff_lt_mul Z];have J:(u+1)*cq<=y*cq:=Nat.mul_le_mul_right _ hu;grind
def Fb{u v y1 y0 cq q Θ:Nat}(hr:u=q*y1+Θ)(hB:cq<=Θ)(hq:q<=cq)(Z:y0<cq):q*(y1*cq+y0)<=u*cq+v:=by
 refine zJ hr ?_;have J:q*y0<=cq*y0:=Nat.mul_le_mul_right _ hq;have U:cq*y0<=cq*Θ:=Nat.mul_le_mul_left _ (by omega);omega
def FL{n y q:Nat}(Z:0<y)(J:n / y<=q)(U:q*y<=n):q=n / y:=by
 have h3:q<=n / y:=(Nat.le_div_iff_mul_le Z).2 U;omega
end
section
open Go.V
theorem nt(l:LL):∀i,i<=l.length->(List.range i).foldl (λs k=>s+l[k]!.2.2) 0=dU (l.take i):=by
 intro i;induction i with
 | zero=>intro _;simp[dU]
 | succ i ih =>
  grind [List.range_succ,fG]
theorem lK(l:LL):dU (l.take l.length)=dU l:=ay
theorem kg{l:LL}(h:∀x∈l,π x){k:Nat}(hk:k<l.length):0<dU l:=by
 have J:=kh h k B;have U:=fG l hk;have h3:=h _ (bA hk);unfold π at h3
 have h4:∀j,k+1<=j->j<=l.length->dU (l.take (k+1))<=dU (l.take j):=by
  intro j;induction j with
  | zero=>omega
  | succ j ih =>
   grind [fG,bA,π]
 grind
theorem CC{l:LL}{n:Int}(hl:∀x∈l,π x)(h0:0<=n)(J:n<=dU l)(k:Nat)(hk:k<l.length):0<=K8 l n k/\K8 l n k<=l[k]!.2.2:=by
 have hs:=kg hl hk;have hw:=hl _ (bA hk);unfold π at hw;have a2:0<=IZ l n k:=ir (Int.mul_nonneg h0 B) B;unfold K8;rcases Int.lt_or_le n (dU l) with r|I
 .have a3:IZ l n k<l[k]!.2.2:=by
   unfold IZ;refine Int.ediv_lt_of_lt_mul hs ?_;rw[Int.mul_comm];exact Int.mul_lt_mul_of_pos_left r B
  omega
 .have hn:n=dU l:=B
  have a4:∀j,IZ l n j=l[j]!.2.2:=by
   intro j;unfold IZ;rw[hn];exact Int.mul_ediv_cancel_left _ B
  grind [gX,nt,lK]
def uu(mixed:Bool)(l:LL)(n:Int)(hl:∀x∈l,π x)(h0:0<=n)(J:n<=dU l)(k:Nat)(hk:k<l.length):0<=Mj mixed l n k/\Mj mixed l n k<=l[k]!.2.2:=by
 unfold Mj;split
 .exact CC hl h0 J k hk
 .exact oU h0 (λx h=>(hl x h).w) k hk
def NP(Α:Nat->Int)(i j:Nat):Prop:=Α j<Α i\/(Α i=Α j/\i<j)
def jM(Α:Nat->Int)(n k:Nat):Nat:=((List.range n).filter (λj=>decide (Α k<Α j\/(Α j=Α k/\j<k)))).length
theorem uH(l:LL)(n:Int)(k:Nat):FD l n k=jM (JM l n) l.length k:=rfl
theorem mS{Α:Nat->Int}{n:Nat}{o:List Nat}(hp:o.Perm (List.range n))(hs:o.Pairwise (NP Α)){p:Nat}(h:p<o.length):jM Α n o[p]=p:=by
 unfold jM;rw[<-(hp.filter _).length_eq];have r:=List.pairwise_iff_getElem.1 hs
 have e:o=o.take p++o[p]::o.drop (p+1):=by
  conv=>lhs;rw[<-cz p o,bS h]
 have J:(o.take p).filter (λj=>decide (Α o[p]<Α j\/(Α j=Α o[p]/\j<o[p])))=o.take p:=by
  rw[List.filter_eq_self];intro x K;obtain⟨i,hi,rfl⟩:=List.mem_iff_getElem.1 K;rw[aK] at hi;rw[List.getElem_take];have:=r i p B h B
  simpa [NP] using this
 have U:(o.drop (p+1)).filter (λj=>decide (Α o[p]<Α j\/(Α j=Α o[p]/\j<o[p])))=[]:=by
  rw[List.filter_eq_nil_iff];intro x K;obtain⟨i,hi,rfl⟩:=List.mem_iff_getElem.1 K;rw[ck] at hi;rw[List.getElem_drop];have:=r p (p+1+i) h B B
  unfold NP at this;simp only[decide_eq_true_eq];omega
 grind
theorem sY(Α:Nat->Int)(n:Nat):∃o:List Nat,o.Perm (List.range n)/\o.Pairwise (NP Α):=by
 refine⟨(List.range n).mergeSort (λi j=>decide (Α j<Α i\/(Α i=Α j/\i<=j))),List.mergeSort_perm _ _,?_⟩;have hp:=List.mergeSort_perm (List.range n) (λi j=>decide (Α j<Α i\/(Α i=Α j/\i<=j)));have r:=hp.nodup_iff.2 ay;grind [List.pairwise_mergeSort,List.pairwise_iff_getElem,NP]
theorem uQ{Α:Nat->Int}{n:Nat}{o:List Nat}(hp:o.Perm (List.range n))(hs:o.Pairwise (λa b=>¬(Α a<Α b\/(Α a=Α b/\b<a)))):o.Pairwise (NP Α):=by
 grind [List.nodup_range,List.pairwise_iff_getElem,NP]
theorem kr{Α:Nat->Int}{n:Nat}{o:List Nat}(hp:o.Perm (List.range n))(hs:o.Pairwise (NP Α)){k m:Nat}(hk:k<n):k∈o.take m↔jM Α n k<m:=by
 grind [List.mem_iff_getElem,mS]
theorem Hl{Α:Nat->Int}{n i j:Nat}(hi:i<n)(hj:j<n)(h:jM Α n i=jM Α n j):i=j:=by
 obtain⟨o,hp,hs⟩:=sY Α n;have r:i∈o:=ay;have I:j∈o:=ay;grind [List.mem_iff_getElem,mS]
def dm(n:Nat)(f:Nat->Int):Int:=(List.range n).foldl (λs k=>s+f k) 0
def lh(f:Nat->Int):dm 0 f=0:=rfl
theorem gd(n:Nat)(f:Nat->Int):dm (n+1) f=dm n f+f n:=by
 grind [dm,List.range_succ]
theorem pR{n:Nat}{f g:Nat->Int}(h:∀k,k<n->f k=g k):dm n f=dm n g:=by
 induction n with
 | zero=>rfl
 | succ n ih=>grind [gd]
theorem sR(n:Nat)(f g:Nat->Int):dm n (λk=>f k+g k)=dm n f+dm n g:=by
 induction n with
 | zero=>rfl
 | succ n ih=>grind [gd]
theorem Cz(n:Nat)(f g:Nat->Int):dm n (λk=>f k - g k)=dm n f - dm n g:=by
 induction n with
 | zero=>rfl
 | succ n ih=>grind [gd]
def sQ(n:Nat)(c:Int)(f:Nat->Int):dm n (λk=>c*f k)=c*dm n f:=by
 induction n with
 | zero=>simp[lh]
 | succ n ih=>rw[gd,gd,ih,Int.mul_add]
theorem ni{n:Nat}{f g:Nat->Int}(h:∀k,k<n->f k<=g k):dm n f<=dm n g:=by
 induction n with
 | zero=>exact co _
 | succ n ih=>grind [gd]
theorem pQ(n:Nat)(c:Int):dm n (λ_=>c)=n*c:=by
 induction n with
 | zero=>simp[lh]
 | succ n ih=>grind [gd]
theorem sy{f:Nat->Int}{l l' : List Nat}(h:l.Perm l'):∀s:Int,l.foldl (λs k=>s+f k) s=l'.foldl (λs k=>s+f k) s:=by
 induction h with
 | nil=>omega
 | cons x _ ih=>grind
 | swap x y l=>grind
 | trans _ _ ih1 ih2=>grind
theorem EC(Α:Nat->Int){n m:Nat}(hm:m<=n):dm n (λk=>if jM Α n k<m then 1 else 0)=m:=by
 obtain⟨o,hp,hs⟩:=sY Α n;have hl:o.length=n:=by have:=hp.length_eq;simpa using this
 unfold dm;rw[<-sy hp]
 have h:∀q,q<=n->(o.take q).foldl (λ (s:Int) k=>s+if jM Α n k<m then 1 else 0) 0=min q m:=by
  intro q;induction q with
  | zero=>intro _;simp
  | succ q ih =>
   grind [av,mS]
 have U:=h n B;grind
theorem rx(l:LL):dU l=dm l.length (λk=>l[k]!.2.2):=by
 grind [dm,nt,lK]
def ou(l:LL)(n:Int):gX l n=n - dm l.length (IZ l n):=rfl
theorem sV{l:LL}{n:Int}(hl:∀x∈l,π x)(h0:l≠[]):0<=gX l n/\gX l n<l.length:=by
 have r:0<l.length:=ay;have hs:=kg hl r
 have J:dm l.length (λk=>dU l*IZ l n k+JM l n k)=dm l.length (λk=>n*l[k]!.2.2) :=
  pR (λk _=>by unfold IZ JM;exact Int.mul_ediv_add_emod _ _)
 rw[sR,sQ,sQ,<-rx] at J
 have U:dm l.length (JM l n)<=dm l.length (λ_=>dU l - 1):=ni (λk _=>by
  have:=cQ (n*l[k]!.2.2) hs
  unfold JM;omega)
 have h3:dm l.length (λ_=>(0:Int))<=dm l.length (JM l n):=ni (λk _=>dz _ B);rw[pQ] at U h3
 have h4:dU l*gX l n=dm l.length (JM l n):=by
  rw[ou,Int.mul_sub];rw[Int.mul_comm (dU l) n];omega
 have h5:0<=dU l*gX l n:=by rw[h4];omega
 have h6:dU l*gX l n<dU l*l.length:=by
  rw[h4]
  have:(l.length:Int)*(dU l - 1)<dU l*l.length:=by
   rw[Int.mul_sub,Int.mul_one,Int.mul_comm];omega
  omega
 exact⟨Int.nonneg_of_mul_nonneg_right h5 hs,Int.lt_of_mul_lt_mul_left h6 B⟩
theorem Ge{l:LL}{n:Int}(hl:∀x∈l,π x)(h0:l≠[]):dm l.length (K8 l n)=n:=by
 obtain⟨J,U⟩:=sV (n:=n) hl h0;have e:dm l.length (K8 l n)=dm l.length (λk=>IZ l n k+(if jM (JM l n) l.length k<(gX l n).toNat then 1 else 0)):=by grind [pR,K8,uH]
 rw[e,sR,EC _ B,ou] at *;omega
theorem GQ(l:LL)(m:Int):∀k,L7 l m k=m - dm k (K2 l m):=by
 intro k;induction k with
 | zero=>simp[L7,lh]
 | succ k ih =>
  grind [gd,L7,K2]
theorem GS{l:LL}{m:Int}(hl:∀x∈l,π x)(h0:0<=m)(J:m<=dU l):dm l.length (K2 l m)=m:=by
 have U:∀k,k<=l.length->L7 l m k=max 0 (m - dU (l.take k)):=by
  intro k;induction k with
  | zero=>intro _;simp[L7,dU];omega
  | succ k ih =>
   grind [bA,π,L7,fG]
 grind [GQ]
theorem FY{mixed:Bool}{l:LL}{n:Int}(hl:∀x∈l,π x)(h0:0<=n)(J:n<=dU l):dm l.length (Mj mixed l n)=n:=by
 grind [Mj,Ge,dU,GS]
theorem fO(a b:LL):dU (a++b)=dU a+dU b:=by
 have h:∀(l:LL) (s:Int),l.foldl (λs x=>s+x.2.2) s=s+l.foldl (λs x=>s+x.2.2) 0:=by
  intro l;induction l with
  | nil=>intro s;simp
  | cons x l ih=>grind
 unfold dU;grind
theorem fu(x:gq):dU [x]=x.2.2:=by simp[dU]
theorem nG(l:LL)(x:gq):dU (bz l x)=dU l+x.2.2:=by
 unfold bz;split
 .omega
 .split
  .rename_i h;obtain⟨J,_⟩:=h
   have e:l=l.take (l.length - 1)++[l[l.length - 1]!]:=by
    conv=>lhs;rw[<-cz (l.length - 1) l,bS B,bN B]
    rw[C5 B]
   have e2:l.set (l.length - 1) (l[l.length - 1]!.1,l[l.length - 1]!.2.1,l[l.length - 1]!.2.2+x.2.2)=l.take (l.length - 1)++[(l[l.length - 1]!.1,l[l.length - 1]!.2.1,l[l.length - 1]!.2.2+x.2.2)]:=by
    rw[List.set_eq_take_append_cons_drop,μ B,bN B]
   have e3:dU l=dU (l.take (l.length - 1))+l[l.length - 1]!.2.2:=by
    conv=>lhs;rw[e]
    rw[fO,fu]
   grind [fO,fu]
  .rw[fO,fu]
def Fs(l:LL)(cs:Nat->Int)(m:Nat):dU (KR l cs m)=dm m (λk=>l[k]!.2.2 - cs k):=by
 induction m with
 | zero=>rfl
 | succ m ih=>rw[tC,nG,ih,gd];rfl
def Dg{mixed:Bool}{l:LL}{n:Int}(hl:∀x∈l,π x)(h0:0<=n)(J:n<=dU l):dU (iO mixed l n)=dU l - n:=by
 unfold iO;rw[Fs,Cz,FY hl h0 J,<-rx]
