/- Lemmas. -/
import Derived.Test.YtlgpgjdggilkgaaGreatDoorEtak
set_option linter.all false
namespace Go.Proofs.YtlgpgjdggilkgaaGreatDoor
section
open Go.V
attribute [local irreducible] Α GO GP δ ms Ev Ef C0 F CB GB Enters
structure E3 where
 A:Int
 step:Int
 Δ:Int
 E:Int
 RV:Int
 Λ:Int
 to:Int
 a1:Int
 n:Int
 Β:ο
 made:List Int
 deriving Inhabited,DecidableEq
structure Pv where
 m:E3
 pad:OA
 J2:Nat
 fH:OA
 iI:Nat
 deriving Inhabited
def ft(f:Pv):τ:=[J f.m.A,J f.m.step,J f.m.Δ,J f.m.E,J f.m.RV,J f.m.Λ,J f.m.to,J f.m.a1,J f.m.n,ah f.pad f.m.Β.length f.J2,ah f.fH f.m.made.length f.iI]
def oh(t:Pv):∀u∈ft t,u.oneCell' = true:=by simp[ft,Value.oneCell']
instance:RN ft:=⟨oh⟩
def Pm(f:Pv):HP:=SC (ξ aL 3 f.pad f.m.Β) (ξ (dJ .i64) 1 f.fH f.m.made)
def xt(f:Pv):Om (Pm f):=(cQ _ _ _ _).and (cQ _ _ _ _)
def iu(s:M0):HP:=SC (stM s) (Nu s)
def rr(s:M0):Om (iu s):=(Dw s).and (fi ku)
structure Ρ where
 D8:Int
 π:B0
 ν:Int->Int->ο
 id:Int->Int
 D9:List D6
 Κ:List E3
 imp:Int->ο
 ret:Int->ο
structure OB where
 π:L1
 Q:Nat
 mt:Nat
 mi:Nat
 mr:Nat
 ν:List ((Int×Int)×h1)
 id:List (Int×Int)
 imp:List (Int×h1)
 ret:List (Int×h1)
 D9:List M0
 K0:OA
 Qq:Nat
 Κ:List Pv
 C3:OA
 F1:Nat
abbrev Tp:Nat:=130
abbrev ji:Nat:=87
abbrev gX:Nat:=45
def fJ{κ:Type}[DecidableEq κ](m:List (κ×h1))(k:κ):h1:=(ζ m k).getD ⟨none,0,[]⟩
structure VS (S:Ρ) (x:OB):Prop where
 π:x.π.m=S.π
 UP:x.π.fG
 ν:∀a i,(fJ x.ν (a,i)).C8=S.ν a i
 full:∀p∈x.ν,p.2.C8≠[]
 id:∀i,(ζ x.id i).getD 0=S.id i
 D9:x.D9.map M0.m=S.D9
 Κ:x.Κ.map (·.m)=S.Κ
 imp:∀i,(fJ x.imp i).C8=S.imp i
 ret:∀i,(fJ x.ret i).C8=S.ret i
structure Ρ.Ok (S:Ρ):Prop where
 D8:0<=S.D8/\S.D8<12
 D9:S.D9.length<=65536
 Κ:S.Κ.length<=64*S.D9.length
 ν:∀a i,(S.ν a i).length<=4096/\∀l∈S.ν a i,a0 l
 id:∀i,-((S.Κ.length:Int)*1099511627776)<=S.id i/\S.id i<=1099511627776
abbrev cJ(d:Int)(x:OB):τ:=[J d,ah x.π.I2 x.π.B5.length x.π.J4,ah x.π.Oo 0 x.π.Oq,ah x.π.Sg 0 x.π.Sh,ah x.π.SD 0 x.π.SE,.map (some x.Q),.map (some x.mt),ah x.K0 x.D9.length x.Qq,ah x.C3 x.Κ.length x.F1,.map (some x.mi),.map (some x.mr)]
abbrev E1(b:Nat)(d:Int)(x:OB)(L:Η):Η :=
 obj b Tp (cJ d x)::cS D5 h1.v x.Q x.ν::cS gm Q2 x.mt x.id::PR eK 7 ji x.K0 x.Qq x.D9::PR ft 11 gX x.C3 x.F1 x.Κ::cS gm h1.v x.mi x.imp::cS gm h1.v x.mr x.ret::Oz x.π::Ψ (λp:(Int×Int)×h1=>G8 p.2) x.ν::Ψ iu x.D9::Ψ Pm x.Κ::Ψ (λp:Int×h1=>G8 p.2) x.imp::Ψ (λp:Int×h1=>G8 p.2) x.ret::L
def L3(d:Int)(c:B0):Ρ:=⟨d,c,λ_ _=>[],λ_=>0,[],[],λ_=>[],λ_=>[]⟩
def Ρ.now(S:Ρ):Int:=(S.D9.getLast?.map (·.E)).getD 0
abbrev DJ:=Zd [.ev 13]
def NJ{φ ψ:Prop}(k:ψ)(h:Hid ψ->φ:=by intro k;(repeat (first|refine ab ?_|intro B6|refine Α.dr 22 3 DJ ?_));(repeat revert B6);exact Hid.out k):φ:=h ⟨k⟩
def Gy{L R:Η}{b:Nat}{d:Int}{x:OB}[hp:PO L b Tp (cJ d x) R][hr:F2 L x.K0 M0 eK 7 x.D9](U:x.D9.length<=100000) :
  Τ Θ 189 #[av b] L (F3 (J ((x.D9.getLast?.map (·.E)).getD 0)) L):=by
 refine Τ.bd ?_;by_cases h0:x.D9.length=0
 .refine NJ ?_;intros;exact KX.a8 aF (F.refl _) ⟨by rw[cd h0];rfl,rfl⟩
 .refine NJ ?_;intros;refine KX.a8 aF (F.refl _) ⟨?_,rfl⟩
  have e:x.D9.getLast? = some x.D9[((x.D9.length:Int) - 1).toNat]!:=by
   rw[show((x.D9.length:Int) - 1).toNat=x.D9.length - 1 by omega,List.getLast?_eq_getElem?,D7 D,List.getElem?_eq_getElem]
  rw[e];rfl
def Qd(n:Int):Prop:=0<=n/\n<=1073741824
instance:DecidablePred Qd:=λn=>by unfold Qd;infer_instance
def pN{L:Η}(n:Int):Τ Θ 188 #[J n] L (F3 (.bool (dB (Qd n))) L):=by
 refine Τ.bd ?_;by_cases K:0<=n
 .by_cases T:n<=1073741824
  .refine Nd ?_;intros;exact KX.a8 aF (F.refl _) ⟨by rw[bN T,bN (show Qd n from⟨K,T⟩)];rfl,rfl⟩
  .refine Nd ?_;intros;exact KX.a8 aF (F.refl _) ⟨by rw[bB T,bB (λh:Qd n=>T h.2)];rfl,rfl⟩
 .refine Nd ?_;intros;exact KX.a8 aF (F.refl _) ⟨by rw[bB (λh:Qd n=>K h.1)];rfl,rfl⟩
def UQ(f:FuncId)(p:Int->Bool):Prop:=∀(n:Int) (L:Η),Τ Θ f #[J n] L (F3 (.bool (p n)) L)
def oo:UQ 269 (λn=>dB (n=0)):=by
 intro n L;refine Τ.bd (args:=[J n]) ?_;refine Nd ?_;intros;exact KX.en ⟨rfl,rfl⟩
def kQ:UQ 270 (λn=>dB (¬n=0)):=by
 intro n L;refine Τ.bd (args:=[J n]) ?_;refine Nd ?_;intros;exact KX.en ⟨rfl,rfl⟩
def LM(n:Int):Prop:=1<=n/\n<=1048576
def lc(K9 OI:Int):Prop:=K9 = -1/\OI=0
instance (a b:Int):Decidable (lc a b):=by unfold lc;infer_instance
def zq{L:Η}(b:Nat)(s:M0):Τ Θ 271 #[av b,bF (eK s)] L (F3 (.bool (dB (lc s.K9 s.OI))) L):=by
 refine Τ.bd ?_;by_cases K:s.K9 = -1
 .by_cases T:s.OI=0
  .refine Nd ?_;intros;exact KX.a8 aF ak ⟨by rw[bN T,bN (show lc s.K9 s.OI from⟨K,T⟩)];rfl,rfl⟩
  .refine Nd ?_;intros;exact KX.a8 aF ak ⟨by rw[bB T,bB (λh:lc s.K9 s.OI=>T h.2)];rfl,rfl⟩
 .refine Nd ?_;intros;exact KX.a8 aF ak ⟨by rw[bB (λh:lc s.K9 s.OI=>K h.1)];rfl,rfl⟩
def Wu(l:List (Int×Int)):Prop:=∀a∈l,0<=a.2/\a.2<=1099511627776
structure B0.Ok (c:B0):Prop where
 take:∀r∈c.rules,Wu r.take
 Wr:∀r∈c.rules,Wu r.Wr
 back:∀r∈c.rules,Wu r.back
def jc(K9:Int):Int:=if K9 < -1 then -2 - K9 else K9
def zI(r:UN)(K9:Int):List (Int×Int):=if K9 < -1 then r.back else r.Wr
def LN(Q:List A8)(OI:Int)(a:Int×Int)(m:A8):Prop:=m.Λ=Q[0]!.Λ/\m.to=0/\m.a1=a.1/\m.n=a.2*OI
def Mr(t0 OI:Int)(a:Int×Int)(m:A8):Prop:=m.Λ=0/\m.to=t0/\m.a1=a.1/\m.n=a.2*OI
def HC(rules:List UN)(K9 OI:Int)(Q:List A8):Prop :=
 (0<=jc K9/\jc K9<rules.length)/\LM OI/\rules[(jc K9).toNat]!.spawn=false/\¬(K9 < -1/\rules[(jc K9).toNat]!.Zj >= rules[(jc K9).toNat]!.Zk) /\
 Q.length=rules[(jc K9).toNat]!.take.length+(zI rules[(jc K9).toNat]! K9).length /\
 (∀i:Nat,i<rules[(jc K9).toNat]!.take.length->LN Q OI rules[(jc K9).toNat]!.take[i]! Q[i]!) /\
 (∀i:Nat,i<(zI rules[(jc K9).toNat]! K9).length->Mr (Q[rules[(jc K9).toNat]!.take.length]!).to OI (zI rules[(jc K9).toNat]! K9)[i]! Q[rules[(jc K9).toNat]!.take.length+i]!)
instance:Inhabited A8:=inferInstance
def Mk(k:Int):Prop:=k=0\/k=1\/k=6\/k=2\/k=3\/k=8\/k=4
def SF(x:OB):Int:=(x.D9.getLast?.map (·.E)).getD 0
abbrev JI:Nat:=299
theorem zj{l:ο}{x:h2}(h:∀y∈l,a0 y)(O:J9 x):∀y∈bH l x,a0 y:=by
 grind [bH,J9,TL,bA,a0]
theorem lG{I:ο}:∀{l:ο},(∀y∈l,a0 y)->(∀y∈I,J9 y)->∀y∈I.foldl bH l,a0 y:=by
 induction I with
 | nil=>grind
 | cons x I ih=>grind [zj,aA]
def Hq{l:ο}{cs:Nat->Int}(hw:∀x∈l,a0 x)(hc:∀k,k<l.length->0<=cs k/\cs k<=l[k]!.2.2):(∀x∈P3 l cs l.length,a0 x)/\∀x∈PS l cs l.length,a0 x:=by
 refine⟨lG cj ?_,lG cj ?_⟩
 all_goals
  intro y Y
  obtain⟨k,hk,rfl⟩:=H9 Y
  have hk:=List.mem_range.1 hk
 .exact(Vi hk (λx h=>(hw x h).w) (hc k hk)).1
 .exact(Vi hk (λx h=>(hw x h).w) (hc k hk)).2
abbrev DI:List K4:=[.ev 0,.ev 2,.ef 1,.ef 3,.ev 4]
def gQ{φ ψ:Prop}(k:ψ)(h:Hid ψ->φ:=by intro k;first|refine GO.ci (f:=116) (Hid.out k)|refine δ.ci (f:=116) (Hid.out k)|refine GO.cf (f:=116) rfl (Hid.out k)|refine δ.cf (f:=116) rfl (Hid.out k)|refine KX.Sz (Hid.out k)):φ:=h ⟨k⟩
def gP{φ ψ:Prop}(k:ψ)(h:Hid ψ->φ:=by intro k;(with_reducible apply Α.a8);first|refine Α.dr 17 3 DI (Hid.out k)):φ:=h ⟨k⟩
def YV{φ ψ:Prop}(k:ψ)(h:Hid ψ->φ:=by intro k;(repeat (first|refine ab ?_|intro B6|refine gP ?_|refine gQ ?_));(repeat revert B6);exact Hid.out k):φ:=h ⟨k⟩
def GJ{L:Η}(ad:OA)(cap:Nat)(I:ο)(x:h2)(U:I.length<=4096)(a4:∀l∈I,a0 l)(O:a0 x) :
  Τ Θ 195 #[ah ad I.length cap,bF (aL x)] (ξ aL 3 ad I::L) (λv Γ=>∃a3 B,v=ah a3 (bH I x).length B/\Γ = Ω aL 3 I7 a3 B (bH I x)::ξ aL 3 ad I::L):=by
 have a7:=O;obtain⟨o1,o2,o3,o4,o5⟩:=a7;refine Τ.bd ?_;refine YV ?_;intros;refine GO.cr (kq ad I.length cap I rfl U a4) ?_;refine YV ?_;intros;rw[bN o5];refine YV ?_;intros;refine δ.ca (jx ad I.length cap I rfl D) ?_;rintro _ _⟨a5,M,rfl,rfl⟩;refine YV ?_;intros;refine δ.ca (qS a5 M I x D (λy h=>(a4 y h).w) O.w) ?_;rintro _ _⟨a6,a2,rfl,rfl⟩;refine YV ?_;intros;exact KX.en ⟨a6,a2,rfl,rfl⟩
def Nx(l:ο)(n:Int)(k:Nat):Int:=n*l[k]!.2.2 / aY l
def Ot(l:ο)(n:Int)(k:Nat):Int:=n*l[k]!.2.2 % aY l
def JJ(l:ο)(n:Int)(k:Nat):Nat:=((List.range l.length).filter (λj=>decide (Ot l n k<Ot l n j\/(Ot l n j=Ot l n k/\j<k)))).length
def iS(l:ο)(n:Int):Int:=n - (List.range l.length).foldl (λs k=>s+Nx l n k) 0
def Qe(l:ο)(n:Int)(k:Nat):Int:=Nx l n k+(if(JJ l n k:Int)<iS l n then 1 else 0)
def Rv(mixed:Bool)(l:ο)(n:Int):Nat->Int:=if mixed=true/\0<n then Qe l n else P4 l n
def nj(mixed:Bool)(l:ο)(n:Int):ο:=P3 l (Rv mixed l n) l.length
def jH(mixed:Bool)(l:ο)(n:Int):ο:=PS l (Rv mixed l n) l.length
structure Ug (mixed:Bool):Prop where
 bd:∀(l:ο) (n:Int),(∀x∈l,a0 x)->0<=n->n<=aY l->∀k,k<l.length->0<=Rv mixed l n k/\Rv mixed l n k<=l[k]!.2.2
 tri:∀(L:Η) (ad:OA) (c:Nat) (I:ο) (n:Int),I.length<=4096->(∀l∈I,a0 l)->0<=n->n<=1099511627776 ->
  Τ Θ 300 #[ah ad I.length c,J n,.bool mixed] (ξ aL 3 ad I::L) (λv Γ =>
   (aY I<n/\v=.tuple #[ah none 0 0,ah none 0 0,J 10]/\Γ = ξ aL 3 ad I::L) \/
   (n<=aY I/\∃Vk c1 Xw c2,v=.tuple #[ah Vk (nj mixed I n).length c1,ah Xw (jH mixed I n).length c2,J 0]/\Γ = Ω aL 3 I7 Vk c1 (nj mixed I n)::Ω aL 3 I7 Xw c2 (jH mixed I n)::ξ aL 3 ad I::L))
def AE:Ug false where
 bd:=λl n U h0 _ k hk=>qW h0 (λx h=>(U x h).w) k hk
 tri:=λ_ ad c I n K T h3 h4=>Dt ad c I n false rfl K T h3 h4
structure Wv where
 cs:Nat
 ct:Nat
 ci:Nat
 cr:Nat
 ν:List ((Int×Int)×h1)
 id:List (Int×Int)
 Κ:List Pv
 C3:OA
 F1:Nat
 Oi:List Int
 O2:OA
 O3:Nat
abbrev Ww:Nat:=178
def Wx(x:OB)(z:Wv)(k:Int×Int):h1:=(ζ z.ν k).getD (fJ x.ν k)
def vd{κ:Type}[DecidableEq κ](m:List (κ×h1))(k:κ):((@List.lookup _ _ instBEqOfDecidableEq k m).map h1.v).getD (ah none 0 0)=(fJ m k).v:=by
 unfold fJ ζ;cases @List.lookup _ _ instBEqOfDecidableEq k m<;>rfl
def vU{κ:Type}[DecidableEq κ]{m:List (κ×h1)}(k:κ){L:Η}:F (Ψ (λp:κ×h1=>G8 p.2) m::L) (G8 (fJ m k)::Ψ (λp:κ×h1=>G8 p.2) m::L):=by
 unfold fJ;cases h:ζ m k with
 | none=>exact F.f5 aL 3 none
 | some s=>exact F.d8 (f:=λp:κ×h1=>G8 p.2) (x:=(k,s)) (bQ h)
structure ac7 (x:OB) (z:Wv) (m:A8):Prop where
 a1:0<=m.a1/\m.a1<x.π.B5.length
 n:0<=m.n/\m.n<=1099511627776
 Β:m.Β.length=0
 len:(Wx x z (m.Λ,m.a1)).C8.length<=4096
 C8:∀l∈(Wx x z (m.Λ,m.a1)).C8,a0 l
def cW(x:OB)(i:Int):Bool:=x.π.B5[i.toNat]!.mixed
structure Wk where
 ν:Int->Int->ο
 id:Int->Int
 Κ:List E3
 Oi:List Int
def Qf{α:Type}(f:Int->Int->α)(a i:Int)(v:α):Int->Int->α:=λa' i'=>if a' = a/\i' = i then v else f a' i'
def du(W:Wk)(m:A8):Int:=W.id m.a1+(if m.Λ=0 then m.n else 0) - (if m.to=0 then m.n else 0)
def eZ(d:Int)(nf:Nat)(W:Wk):Int:=d*4294967296+nf+W.Κ.length
def li(s:D6)(W:Wk)(m:A8):List Int:=if m.Λ=0/\(s.Δ=4\/s.Δ=10) then W.Oi else[]
structure WkF (x:OB) (z:Wv) (W:Wk):Prop where
 ν:∀a i,(Wx x z (a,i)).C8=W.ν a i
 id:∀i,(ζ z.id i).getD ((ζ x.id i).getD 0)=W.id i
 Κ:z.Κ.map Pv.m=W.Κ
 Oi:z.Oi=W.Oi
structure Wk.Ok (nf:Nat) (W:Wk):Prop where
 ν:∀a i,(W.ν a i).length<=4096/\∀l∈W.ν a i,a0 l
 id:∀i,-(((nf:Int)+W.Κ.length)*1099511627776)<=W.id i/\W.id i<=1099511627776
 Oi:W.Oi.length<=W.Κ.length
def xh{L:Η}(ad:OA)(n c:Nat)(I:List Int)[F2 L ad Int (dJ .i64) 1 I](hn:n=I.length)(hb:n<=1000000) :
  Τ Θ 115 #[ah ad n c] L (λv Γ=>∃M B,v=ah M I.length B/\Γ = Ω (dJ .i64) 1 B7 M B I::L):=by
 refine Τ.bd ?_;repeat' first|refine ab ?_|intro _|with_reducible refine CB.dec (λ_=>?_) (λ_=>?_)|with_reducible refine GB.dec (λ_=>?_) (λ_=>?_)|with_reducible refine CB.bool (λ_=>?_) (λ_=>?_)|with_reducible refine GB.bool (λ_=>?_) (λ_=>?_)
 .have h:ad=none:=by assumption
  subst h;refine KX.f8 (.inl rfl) (oO (L:=L) (I:=I)) ?_;intro O;subst O;refine KX.a8 aF (F.c8 (dJ .i64) 1 B7) ⟨_,_,rfl,rfl⟩
 .refine GO.cL (F.d9 (Ε:=dJ .i64) (sz:=1) (I:=[]) rfl rfl cj cj) ?_;refine GO.ef (Ef.c9 rfl rfl rfl rfl hn (λe _=>by simp[dJ,Value.oneCell']) hZ hZ) ae ?_;rintro _ _⟨M,B,rfl,rfl⟩;refine Nd ?_;intros;refine KX.a8 aF (F.refl _) ⟨M,B,rfl,rfl⟩
structure ac8 (x:OB) (m:A8):Prop where
 a1:0<=m.a1/\m.a1<x.π.B5.length
 n:1<=m.n/\m.n<=1099511627776
 Λ:Qd m.Λ
 to:Qd m.to
 ne:m.Λ≠m.to
 Β:m.Β.length=0
def ML(m:List (Int×Int))(k Μ:Int):((@List.lookup _ _ instBEqOfDecidableEq k m).map Q2).getD (J Μ)=J ((ζ m k).getD Μ):=by
 unfold ζ;cases @List.lookup _ _ instBEqOfDecidableEq k m<;>rfl
abbrev Qr(f:E3)(pad:OA)(J2:Nat)(fH:OA)(iI:Nat):Pv:=⟨f,pad,J2,fH,iI⟩
def D6.at(s:D6)(A:Int):D6:={ s with A:=A }
def M0.at(s:M0)(A:Int):M0:={ s with A:=A }
def ND(S:Ρ):Wk:=⟨S.ν,S.id,[],[]⟩
structure ac9 (s:M0):Prop where
 Δ:Mk s.Δ
 len:s.fe.length<=1000000
 cap:s.fe.length<=s.iI
 K9:vi s.K9
 Β:∀m∈s.fe,m.m.Β.length<=1000000
def cT(S:Ρ):Int:=S.D8*4294967296+(S.D9.length:Int)
def fV(c:B0)(i:Int):Bool:=c.B5[i.toNat]!.mixed
section plain
variable {κ α:Type}[DecidableEq κ]
theorem tm(p:κ×α)(l:List (κ×α))(k:κ):ζ (p::l) k=if k=p.1 then some p.2 else ζ l k:=by
 grind [ζ]
theorem cF(m:List (κ×α))(k q:κ)(a:α):ζ (cZ m k a) q=if q=k then some a else ζ m q:=oz
theorem Jh(m:List (κ×α))(k q:κ):ζ (I1 m k) q=if q=k then none else ζ m q:=BO
theorem zG{l:List (κ×α)}{k:κ}(h:k∉l.map (·.1)):ζ l k=none:=by
 induction l with
 | nil=>rfl
 | cons p l ih =>
  grind [tm]
theorem ti{l l' : List (κ×α)}(hp:l.Perm l')(hn:(l'.map (·.1)).Nodup)(k:κ):ζ l k=ζ l' k:=by
 have B:(l.map (·.1)).Nodup:=aj;cases h:ζ l k with
 | some a=>exact(fj hn (hp.mem_iff.1 (bQ h))).symm
 | none =>
  grind [ζ]
def ij(m n:List (κ×α)):List (κ×α):=n.foldl (λm p=>cZ m p.1 p.2) m
theorem oA(k:κ):∀(n m:List (κ×α)),(n.map (·.1)).Nodup->ζ (ij m n) k=(ζ n k).or (ζ m k)
 | [],m,_=>rfl
 | p::n,m,hn=>by
  simp only[aq,eD] at hn;have ih:=oA k n (cZ m p.1 p.2) hn.2;have e:ij m (p::n)=ij (cZ m p.1 p.2) n:=rfl;rw[e,ih,tm,cF];by_cases h:k=p.1
  .rw[Χ h,Χ h,zG (h▸hn.1)];rfl
  .rw[Ν h,Ν h]
end plain
def SG(m:List ((Int×Int)×h1))(p:(Int×Int)×h1):List ((Int×Int)×h1):=if p.2.C8.length=0 then I1 m p.1 else cZ m p.1 p.2
def iF(m n:List ((Int×Int)×h1)):List ((Int×Int)×h1):=n.foldl SG m
theorem tZ(m:List ((Int×Int)×h1))(p:(Int×Int)×h1)(k:Int×Int):(fJ (SG m p) k).C8=if k=p.1 then p.2.C8 else(fJ m k).C8:=by
 grind [fJ,SG,Jh,cF]
def qt(k:Int×Int):∀(n m:List ((Int×Int)×h1)),(n.map (·.1)).Nodup->(fJ (iF m n) k).C8=((ζ n k).getD (fJ m k)).C8
 | [],m,_=>rfl
 | p::n,m,hn=>by
  simp only[aq,eD] at hn;have ih:=qt k n (SG m p) hn.2;have e:iF m (p::n)=iF (SG m p) n:=rfl;rw[e,ih,tm];by_cases h:k=p.1
  .rw[Χ h,zG (h▸hn.1)];have T:=tZ m p k;rw[Χ h] at T;exact T
  .rw[Ν h];cases ζ n k with
   | some s=>rfl
   | none =>
    have T:=tZ m p k;rw[Ν h] at T;exact T
theorem It{m:List ((Int×Int)×h1)}{p q:(Int×Int)×h1}(h:q∈SG m p):q∈m\/(q=p/\p.2.C8≠[]):=by
 unfold SG at h;split at h
 .exact .inl (List.mem_filter.1 h).1
 .rename_i h0;rcases Nj (tn q h) with K|K
  .grind
  grind
def pB{q:(Int×Int)×h1}:∀{n m:List ((Int×Int)×h1)},q∈iF m n->q∈m\/(q∈n/\q.2.C8≠[])
 | [],m,h=>.inl h
 | p::n,m,h=>by
  rcases pB (n:=n) (m:=SG m p) h with K|K
  .rcases It K with T|T
   .exact .inl T
   .exact .inr ⟨by rw[T.1];exact aA ..,by rw[T.1];exact T.2⟩
  .exact .inr ⟨az _ K.1,K.2⟩
theorem Fk(Μ s:Nat)(m n:List (Int×Int)) :
  Τ Θ 77 #[.map (some Μ),.map (some s)] [cS gm Q2 Μ m,cS gm Q2 s n] (λ_ Γ=>∃m',(∀k,ζ m' k=(ζ n k).or (ζ m k))/\Γ = [cS gm Q2 Μ m']):=by
 refine Τ.bd ?_;refine Α.cL F.swap ?_;refine Α.c8 (eO (b:=s) (kv:=gm) (Ε:=Q2) (m:=n)) ?_;intro hn;refine Nd ?_;intros;refine GO.ef (Ef.g9 rfl) ae ?_;rintro _ _⟨r,rfl,rfl⟩;refine Nd ?_;intros;refine Α.loop (α:=List (Int×Int)) (λz=>z.length<=n.length) (λz=>[(0,.map (some Μ)),(7,av r)]) (λz=>[fY gm Q2 s n r z,cS gm Q2 Μ (ij m z)]) (λz=>n.length - z.length) [] (aC _) aD (F.refl _) ?_;intro z hz;refine Nd ?_;intros;refine GO.ef (Ef.j6 rfl) ae ?_;rintro _ _ (⟨rfl,rfl,hp⟩|⟨p,rfl,rfl,B,M,U⟩)
 .refine Nd ?_;intros;refine KX.c8 aF F.drop ⟨ij m z,λk=>?_,rfl⟩;grind [oA,ti]
 refine Nd ?_;intros;refine GO.ev (Ev.j6 (done:=z) rfl rfl) ae ?_;refine Nd ?_;intros;refine GO.NH (Ef.d9 (Ε:=Q2) (e:=p.2) rfl rfl rfl rfl) ?_;rintro _ _ rfl;refine Nd ?_;intros;refine⟨z++[p],by simp;omega,by simp;omega,aD,?_⟩;rw[show ij m (z++[p])=cZ (ij m z) p.1 p.2 by simp[ij]];exact ak
end
section
open Go.V
attribute [local irreducible] Α GO GP δ ms Ev Ef C0 F CB GB Enters
open Classical in
def KL{o p:Option Int}{Μ:Int}:(o.or p).getD Μ=o.getD (p.getD Μ):=by cases o<;>rfl
end
section
open Go.V
attribute [local irreducible] Α GO GP δ ms Ev Ef C0 F CB GB Enters
end
section
def IT{u v y1 y0 fG:Nat}(hv:v<fG)(Y:0<y1)(h0:0<fG):(u*fG+v) / (y1*fG+y0)<=u / y1:=by
 rw[Nat.le_div_iff_mul_le Y];have hd:(u*fG+v) / (y1*fG+y0)*(y1*fG+y0)<=u*fG+v:=Nat.div_mul_le_self _ _;generalize (u*fG+v) / (y1*fG+y0)=q at *;have K:q*y1*fG<=q*(y1*fG+y0):=by rw[Nat.mul_add,Nat.mul_assoc];exact(by omega)
 have T:q*y1*fG<(u+1)*fG:=by rw[Nat.add_mul];omega
 have h3:=Nat.lt_of_mul_lt_mul_right T;omega
theorem CJ{u v y1 y0 fG q r:Nat}(hr:u=q*y1+r)(h:q*y0<=fG*r+v):q*(y1*fG+y0)<=u*fG+v:=by
 subst hr;grind
theorem KW{u v y1 y0 fG q r:Nat}(hr:u=q*y1+r)(h:fG*r+v<q*y0)(Y:0<y1*fG+y0):(u*fG+v) / (y1*fG+y0)<q:=by
 rw[Nat.div_lt_iff_lt_mul Y];subst hr;grind
theorem sY{u v y fG:Nat}(hu:u<y)(hv:v<fG)(Y:0<y):(u*fG+v) / y<fG:=by
 rw[Nat.div_lt_iff_lt_mul Y];have K:(u+1)*fG<=y*fG:=Nat.mul_le_mul_right _ hu;grind
def IU{u v y1 y0 fG q r:Nat}(hr:u=q*y1+r)(hB:fG<=r)(hq:q<=fG)(Y:y0<fG):q*(y1*fG+y0)<=u*fG+v:=by
 refine CJ hr ?_;have K:q*y0<=fG*y0:=Nat.mul_le_mul_right _ hq;have T:fG*y0<=fG*r:=Nat.mul_le_mul_left _ (by omega);omega
def JS{n y q:Nat}(Y:0<y)(K:n / y<=q)(T:q*y<=n):q=n / y:=by
 have h3:q<=n / y:=(Nat.le_div_iff_mul_le Y).2 T;omega
end
section
open Go.V
theorem pA(l:ο):∀i,i<=l.length->(List.range i).foldl (λs k=>s+l[k]!.2.2) 0=aY (l.take i):=by
 intro i;induction i with
 | zero=>intro _;simp[aY]
 | succ i ih =>
  grind [dc,gA]
theorem nu(l:ο):aY (l.take l.length)=aY l:=aj
theorem lC{l:ο}(h:∀x∈l,a0 x){k:Nat}(hk:k<l.length):0<aY l:=by
 have K:=lD h k D;have T:=gA l hk;have h3:=h _ (bA hk);unfold a0 at h3
 have h4:∀j,k+1<=j->j<=l.length->aY (l.take (k+1))<=aY (l.take j):=by
  intro j;induction j with
  | zero=>omega
  | succ j ih =>
   grind [gA,bA,a0]
 grind
theorem FL{l:ο}{n:Int}(U:∀x∈l,a0 x)(h0:0<=n)(K:n<=aY l)(k:Nat)(hk:k<l.length):0<=Qe l n k/\Qe l n k<=l[k]!.2.2:=by
 have hs:=lC U hk;have hw:=U _ (bA hk);unfold a0 at hw;have a2:0<=Nx l n k:=jd (Int.mul_nonneg h0 D) D;unfold Qe;rcases Int.lt_or_le n (aY l) with B|M
 .have a3:Nx l n k<l[k]!.2.2:=by
   unfold Nx;refine Int.ediv_lt_of_lt_mul hs ?_;rw[Int.mul_comm];exact Int.mul_lt_mul_of_pos_left B D
  omega
 .have hn:n=aY l:=D
  have a4:∀j,Nx l n j=l[j]!.2.2:=by
   intro j;unfold Nx;rw[hn];exact Int.mul_ediv_cancel_left _ D
  grind [iS,pA,nu]
def xK(mixed:Bool)(l:ο)(n:Int)(U:∀x∈l,a0 x)(h0:0<=n)(K:n<=aY l)(k:Nat)(hk:k<l.length):0<=Rv mixed l n k/\Rv mixed l n k<=l[k]!.2.2:=by
 unfold Rv;split
 .exact FL U h0 K k hk
 .exact qW h0 (λx h=>(U x h).w) k hk
def Tq(R:Nat->Int)(i j:Nat):Prop:=R j<R i\/(R i=R j/\i<j)
def kV(R:Nat->Int)(n k:Nat):Nat:=((List.range n).filter (λj=>decide (R k<R j\/(R j=R k/\j<k)))).length
theorem xV(l:ο)(n:Int)(k:Nat):JJ l n k=kV (Ot l n) l.length k:=rfl
theorem oM{R:Nat->Int}{n:Nat}{o:List Nat}(hp:o.Perm (List.range n))(hs:o.Pairwise (Tq R)){p:Nat}(h:p<o.length):kV R n o[p]=p:=by
 unfold kV;rw[<-(hp.filter _).length_eq];have B:=List.pairwise_iff_getElem.1 hs
 have e:o=o.take p++o[p]::o.drop (p+1):=by
  conv=>lhs;rw[<-cK p o,bY h]
 have K:(o.take p).filter (λj=>decide (R o[p]<R j\/(R j=R o[p]/\j<o[p])))=o.take p:=by
  rw[List.filter_eq_self];intro x O;obtain⟨i,hi,rfl⟩:=List.mem_iff_getElem.1 O;rw[aP] at hi;rw[List.getElem_take];have:=B i p D h D
  simpa [Tq] using this
 have T:(o.drop (p+1)).filter (λj=>decide (R o[p]<R j\/(R j=R o[p]/\j<o[p])))=[]:=by
  rw[List.filter_eq_nil_iff];intro x O;obtain⟨i,hi,rfl⟩:=List.mem_iff_getElem.1 O;rw[cB] at hi;rw[List.getElem_drop];have:=B p (p+1+i) h D D
  unfold Tq at this;simp only[decide_eq_true_eq];omega
 grind
theorem wc(R:Nat->Int)(n:Nat):∃o:List Nat,o.Perm (List.range n)/\o.Pairwise (Tq R):=by
 refine⟨(List.range n).mergeSort (λi j=>decide (R j<R i\/(R i=R j/\i<=j))),List.mergeSort_perm _ _,?_⟩;have hp:=List.mergeSort_perm (List.range n) (λi j=>decide (R j<R i\/(R i=R j/\i<=j)));have B:=hp.nodup_iff.2 aj;grind [List.pairwise_mergeSort,List.pairwise_iff_getElem,Tq]
theorem yf{R:Nat->Int}{n:Nat}{o:List Nat}(hp:o.Perm (List.range n))(hs:o.Pairwise (λa b=>¬(R a<R b\/(R a=R b/\b<a)))):o.Pairwise (Tq R):=by
 grind [List.nodup_range,List.pairwise_iff_getElem,Tq]
theorem lK{R:Nat->Int}{n:Nat}{o:List Nat}(hp:o.Perm (List.range n))(hs:o.Pairwise (Tq R)){k m:Nat}(hk:k<n):k∈o.take m↔kV R n k<m:=by
 grind [List.mem_iff_getElem,oM]
theorem LQ{R:Nat->Int}{n i j:Nat}(hi:i<n)(hj:j<n)(h:kV R n i=kV R n j):i=j:=by
 obtain⟨o,hp,hs⟩:=wc R n;have B:i∈o:=aj;have M:j∈o:=aj;grind [List.mem_iff_getElem,oM]
def dN(n:Nat)(f:Nat->Int):Int:=(List.range n).foldl (λs k=>s+f k) 0
def mC(f:Nat->Int):dN 0 f=0:=rfl
theorem gY(n:Nat)(f:Nat->Int):dN (n+1) f=dN n f+f n:=by
 grind [dN,dc]
theorem rV{n:Nat}{f g:Nat->Int}(h:∀k,k<n->f k=g k):dN n f=dN n g:=by
 induction n with
 | zero=>rfl
 | succ n ih=>grind [gY]
theorem vS(n:Nat)(f g:Nat->Int):dN n (λk=>f k+g k)=dN n f+dN n g:=by
 induction n with
 | zero=>rfl
 | succ n ih=>grind [gY]
theorem FI(n:Nat)(f g:Nat->Int):dN n (λk=>f k - g k)=dN n f - dN n g:=by
 induction n with
 | zero=>rfl
 | succ n ih=>grind [gY]
def vR(n:Nat)(c:Int)(f:Nat->Int):dN n (λk=>c*f k)=c*dN n f:=by
 induction n with
 | zero=>simp[mC]
 | succ n ih=>rw[gY,gY,ih,Int.mul_add]
theorem pk{n:Nat}{f g:Nat->Int}(h:∀k,k<n->f k<=g k):dN n f<=dN n g:=by
 induction n with
 | zero=>exact bE _
 | succ n ih=>grind [gY]
theorem rU(n:Nat)(c:Int):dN n (λ_=>c)=n*c:=by
 induction n with
 | zero=>simp[mC]
 | succ n ih=>grind [gY]
theorem vB{f:Nat->Int}{l l' : List Nat}(h:l.Perm l'):∀s:Int,l.foldl (λs k=>s+f k) s=l'.foldl (λs k=>s+f k) s:=by
 induction h with
 | nil=>omega
 | cons x _ ih=>grind
 | swap x y l=>grind
 | trans _ _ ih1 ih2=>grind
theorem Io(R:Nat->Int){n m:Nat}(hm:m<=n):dN n (λk=>if kV R n k<m then 1 else 0)=m:=by
 obtain⟨o,hp,hs⟩:=wc R n;have U:o.length=n:=by have:=hp.length_eq;simpa using this
 unfold dN;rw[<-vB hp]
 have h:∀q,q<=n->(o.take q).foldl (λ (s:Int) k=>s+if kV R n k<m then 1 else 0) 0=min q m:=by
  intro q;induction q with
  | zero=>intro _;simp
  | succ q ih =>
   grind [aB,oM]
 have T:=h n D;grind
theorem uu(l:ο):aY l=dN l.length (λk=>l[k]!.2.2):=by
 grind [dN,pA,nu]
def qv(l:ο)(n:Int):iS l n=n - dN l.length (Nx l n):=rfl
theorem vX{l:ο}{n:Int}(U:∀x∈l,a0 x)(h0:l≠[]):0<=iS l n/\iS l n<l.length:=by
 have B:0<l.length:=aj;have hs:=lC U B
 have K:dN l.length (λk=>aY l*Nx l n k+Ot l n k)=dN l.length (λk=>n*l[k]!.2.2) :=
  rV (λk _=>by unfold Nx Ot;exact Int.mul_ediv_add_emod _ _)
 rw[vS,vR,vR,<-uu] at K
 have T:dN l.length (Ot l n)<=dN l.length (λ_=>aY l - 1):=pk (λk _=>by
  have:=dp (n*l[k]!.2.2) hs
  unfold Ot;omega)
 have h3:dN l.length (λ_=>(0:Int))<=dN l.length (Ot l n):=pk (λk _=>eH _ D);rw[rU] at T h3
 have h4:aY l*iS l n=dN l.length (Ot l n):=by
  rw[qv,Int.mul_sub];rw[Int.mul_comm (aY l) n];omega
 have h5:0<=aY l*iS l n:=by rw[h4];omega
 have h6:aY l*iS l n<aY l*l.length:=by
  rw[h4]
  have:(l.length:Int)*(aY l - 1)<aY l*l.length:=by
   rw[Int.mul_sub,Int.mul_one,Int.mul_comm];omega
  omega
 exact⟨Int.nonneg_of_mul_nonneg_right h5 hs,Int.lt_of_mul_lt_mul_left h6 D⟩
theorem Ks{l:ο}{n:Int}(U:∀x∈l,a0 x)(h0:l≠[]):dN l.length (Qe l n)=n:=by
 obtain⟨K,T⟩:=vX (n:=n) U h0;have e:dN l.length (Qe l n)=dN l.length (λk=>Nx l n k+(if kV (Ot l n) l.length k<(iS l n).toNat then 1 else 0)):=by grind [rV,Qe,xV]
 rw[e,vS,Io _ D,qv] at *;omega
theorem Ll(l:ο)(m:Int):∀k,Rg l m k=m - dN k (P4 l m):=by
 intro k;induction k with
 | zero=>simp[Rg,mC]
 | succ k ih =>
  grind [gY,Rg,P4]
theorem Lm{l:ο}{m:Int}(U:∀x∈l,a0 x)(h0:0<=m)(K:m<=aY l):dN l.length (P4 l m)=m:=by
 have T:∀k,k<=l.length->Rg l m k=max 0 (m - aY (l.take k)):=by
  intro k;induction k with
  | zero=>intro _;simp[Rg,aY];omega
  | succ k ih =>
   grind [bA,a0,Rg,gA]
 grind [Ll]
theorem Km{mixed:Bool}{l:ο}{n:Int}(U:∀x∈l,a0 x)(h0:0<=n)(K:n<=aY l):dN l.length (Rv mixed l n)=n:=by
 grind [Rv,Ks,aY,Lm]
theorem gE(a b:ο):aY (a++b)=aY a+aY b:=by
 have h:∀(l:ο) (s:Int),l.foldl (λs x=>s+x.2.2) s=s+l.foldl (λs x=>s+x.2.2) 0:=by
  intro l;induction l with
  | nil=>intro s;simp
  | cons x l ih=>grind
 unfold aY;grind
theorem fZ(x:h2):aY [x]=x.2.2:=by simp[aY]
theorem pL(l:ο)(x:h2):aY (bH l x)=aY l+x.2.2:=by
 unfold bH;split
 .omega
 .split
  .rename_i h;obtain⟨K,_⟩:=h
   have e:l=l.take (l.length - 1)++[l[l.length - 1]!]:=by
    conv=>lhs;rw[<-cK (l.length - 1) l,bY D,bU D]
    rw[D7 D]
   have e2:l.set (l.length - 1) (l[l.length - 1]!.1,l[l.length - 1]!.2.1,l[l.length - 1]!.2.2+x.2.2)=l.take (l.length - 1)++[(l[l.length - 1]!.1,l[l.length - 1]!.2.1,l[l.length - 1]!.2.2+x.2.2)]:=by
    rw[List.set_eq_take_append_cons_drop,Χ D,bU D]
   have e3:aY l=aY (l.take (l.length - 1))+l[l.length - 1]!.2.2:=by
    conv=>lhs;rw[e]
    rw[gE,fZ]
   grind [gE,fZ]
  .rw[gE,fZ]
def Jq(l:ο)(cs:Nat->Int)(m:Nat):aY (PS l cs m)=dN m (λk=>l[k]!.2.2 - cs k):=by
 induction m with
 | zero=>rfl
 | succ m ih=>rw[wM,pL,ih,gY];rfl
def GG{mixed:Bool}{l:ο}{n:Int}(U:∀x∈l,a0 x)(h0:0<=n)(K:n<=aY l):aY (jH mixed l n)=aY l - n:=by
 unfold jH;rw[Jq,FI,Km U h0 K,<-uu]
