/- Lemmas. -/
import Derived.Test.YtlgpgjdggilkgaaGreatDoorEtay
set_option linter.all false
set_option maxHeartbeats 4000000
namespace Go.Proofs.YtlgpgjdggilkgaaGreatDoor
section
open Go.V
structure K6 where
 Z:List lu
 iM:List Int
 C6:Int
 I8:List Int
 told:List Int
 dec:Bool
 F7:Bool
 deriving Inhabited,DecidableEq
def Ow.m(x:Ow):K6:=⟨x.Z.map (·.m),x.iM,x.C6,x.I8,x.told,x.dec,x.F7⟩
structure υ where
 μ:Int
 U:Int
 Φ:List (Int×K6)
 Β:List (Int×NF)
 sh:List (Int×Int)
 deriving Inhabited
def Zy(x:Ow):HP:=cx [obj x.b PI (NW x),cS gm bL x.mv (NA x.I8),cS gm bL x.mt (NA x.told),ξ aZ 5 x.bG x.Z,Ψ iJ x.Z,ξ (dJ .i64) 1 x.G4 x.iM]
def Zz(p:J5):HP:=cx [obj p.b Oe (OE p),Ω dz 8 N6 p.bG p.hx p.Z,Ψ I9 p.Z]
def I4(p:Int×Ow):HP:=Zy p.2
def H6(p:Int×J5):HP:=Zz p.2
def cy(x:Ow):Value:=.pointer (some ⟨x.b,0,none⟩)
def cC(p:J5):Value:=.pointer (some ⟨p.b,0,none⟩)
def J6(l:List (Int×Int)):List ((Int×Int)×Bool):=l.map λg=>(g,true)
structure G0 where
 mb:Nat
 mp:Nat
 mr:Nat
 μ:Int
 U:Int
 Φ:List (Int×Ow)
 Β:List (Int×J5)
 sh:List (Int×Int)
 deriving Inhabited
def QI{κ α β:Type}(f:α->β)(l:List (κ×α)):List (κ×β):=l.map λp=>(p.1,f p.2)
def G0.m(n:G0):υ:=⟨n.μ,n.U,QI Ow.m n.Φ,QI J5.m n.Β,n.sh⟩
def eu(nb lb:Nat)(d G:Int)(n:G0)(L:Η):Η:=obj nb C4 (gL lb d G n.μ n.U n.mb n.mp n.mr)::cS gm cy n.mb n.Φ::ey I4 n.Φ::cS gm cC n.mp n.Β::ey H6 n.Β::cS D5 bL n.mr (J6 n.sh)::L
section
variable {κ α β:Type}[DecidableEq κ]
def tj(f:α->β)(k:κ):∀l:List (κ×α),ζ (QI f l) k=(ζ l k).map f
 | []=>rfl
 | p::l=>by
  obtain⟨q,a⟩:=p;have ih:=tj f k l;unfold ζ QI at ih ⊢;rw[aq,cA,cA];by_cases h:k=q
  .subst h;simp
  .have T:(k == q)=false:=by simpa using h
   simp only[T,ih]
omit [DecidableEq κ] in
def jQ(f:α->β)(l:List (κ×α)):(QI f l).map (·.1)=l.map (·.1):=by
 unfold QI;rw[co];rfl
theorem kM(f:α->β)(k:κ)(a:α)(l:List (κ×α)):QI f (cZ l k a)=cZ (QI f l) k (f a):=by
 grind [QI,List.any_map,cZ,aV]
theorem tq{l:List (κ×α)}{k:κ}{x:α}(h:ζ l k=some x)(a:α):cZ l k a=l.map λp=>if p.1=k then(k,a) else p:=by
 unfold cZ;rw[Χ];refine List.any_eq_true.2 ⟨(k,x),bQ h,by simp⟩
theorem pR{l:List (κ×α)}{k:κ}(h:ζ l k=none)(a:α):cZ l k a=l++[(k,a)]:=by
 unfold cZ;rw[Ν];intro q;obtain⟨p,K,T⟩:=List.any_eq_true.1 q;exact nw h aj
theorem F.l7{kv:κ->Value}{Ε:α->Value}{b:Nat}{l:List (κ×α)}{k:κ}{x a:α}(h:ζ l k=some x)(hn:(l.map (·.1)).Nodup)(he:Ε a=Ε x){L:Η}:F (cS kv Ε b l::L) (cS kv Ε b (cZ l k a)::L):=λθ R w s=>by
 obtain⟨es,B,K,T,h3,h4,h5,s2⟩:=Sat.Tk (L:=L++R) s;refine Sat.c8 s2 ?_ (iD T) h3 h4 h5;rw[K,tq h,co];refine aV λp hp=>?_;simp only[Function.comp_apply];by_cases q:p.1=k
 .rw[Χ q];have M:ζ l p.1=some p.2:=fj hn hp;grind
 grind
def F.k9{f:κ×α->HP}{l:List (κ×α)}{k:κ}{x:α}(hn:(l.map (·.1)).Nodup)(h:ζ l k=some x){L:Η}:F (ey f l::L) (f (k,x)::ey f (I1 l k)::L):=(F.g9 (mf hn h)).trans F.Vf
def F.k7{f:κ×α->HP}{l:List (κ×α)}{k:κ}(hn:(l.map (·.1)).Nodup)(a:α){L:Η}:F (f (k,a)::ey f (I1 l k)::L) (ey f (cZ l k a)::L):=(F.UI (f:=f) (x:=(k,a))).trans (F.g9 (qT hn).symm)
end
def NX(l:List Int)(a:Int):List Int:=if a∈l then l else l++[a]
theorem Cl(l:List Int)(a:Int):cZ (NA l) a true=NA (NX l a):=by
 unfold NX;split
 .rename_i h;have hs:∀(l:List Int),ζ (NA l) a=none->a∉l:=λl h q=>nw h (List.mem_map.2 ⟨(a,true),List.mem_map.2 ⟨a,q,rfl⟩,rfl⟩);cases hg:ζ (NA l) a with
  | none=>grind
  | some b =>
   grind [tq,NA,aV]
 grind [ζ,NA,pR]
def OJ(x:Ow)(L:Η):Η:=obj x.b PI (NW x)::cS gm bL x.mv (NA x.I8)::cS gm bL x.mt (NA x.told)::ξ aZ 5 x.bG x.Z::Ψ iJ x.Z::ξ (dJ .i64) 1 x.G4 x.iM::L
def qY{n:G0}{A:Int}{x:Ow}(hn:(n.Φ.map (·.1)).Nodup)(h:List.lookup A n.Φ=some x){L:Η}:F (ey I4 n.Φ::L) (OJ x (ey I4 (I1 n.Φ A)::L)):=(F.k9 hn h).trans F.Tl
def vF{n:G0}{A:Int}{x:Ow}(hn:(n.Φ.map (·.1)).Nodup)(h:List.lookup A n.Φ=some x)(y:Ow)(hb:y.b=x.b){L:Η}:F (cS gm cy n.mb n.Φ::OJ y (ey I4 (I1 n.Φ A)::L)) (cS gm cy n.mb (cZ n.Φ A y)::ey I4 (cZ n.Φ A y)::L):=by
 refine(F.l7 (a:=y) h hn (by unfold cy;rw[hb])).trans (F.c7 ?_);refine F.trans (fG:=I4 (A,y)::ey I4 (I1 n.Φ A)::L) ?_ (F.k7 hn y);exact F.f7 (Ο:=[obj y.b PI (NW y),cS gm bL y.mv (NA y.I8),cS gm bL y.mt (NA y.told),ξ aZ 5 y.bG y.Z,Ψ iJ y.Z,ξ (dJ .i64) 1 y.G4 y.iM])
def Pe(p:J5)(L:Η):Η:=obj p.b Oe (OE p)::Ω dz 8 N6 p.bG p.hx p.Z::Ψ I9 p.Z::L
def nr{n:G0}{A:Int}{x:J5}(hn:(n.Β.map (·.1)).Nodup)(h:List.lookup A n.Β=some x){L:Η}:F (ey H6 n.Β::L) (Pe x (ey H6 (I1 n.Β A)::L)):=(F.k9 hn h).trans F.Tl
def Cs{n:G0}{A:Int}{x:J5}(hn:(n.Β.map (·.1)).Nodup)(h:List.lookup A n.Β=some x)(y:J5)(hb:y.b=x.b){L:Η}:F (cS gm cC n.mp n.Β::Pe y (ey H6 (I1 n.Β A)::L)) (cS gm cC n.mp (cZ n.Β A y)::ey H6 (cZ n.Β A y)::L):=by
 refine(F.l7 (a:=y) h hn (by unfold cC;rw[hb])).trans (F.c7 ?_);refine F.trans (fG:=H6 (A,y)::ey H6 (I1 n.Β A)::L) ?_ (F.k7 hn y);exact F.f7 (Ο:=[obj y.b Oe (OE y),Ω dz 8 N6 y.bG y.hx y.Z,Ψ I9 y.Z])
theorem MP{n:G0}{A:Int}(hn:(n.Β.map (·.1)).Nodup)(h:List.lookup A n.Β=none)(y:J5){L:Η}:F (Pe y (ey H6 n.Β::L)) (ey H6 (cZ n.Β A y)::L):=by
 have e:I1 n.Β A=n.Β:=pS aj;refine F.trans (fG:=H6 (A,y)::ey H6 (I1 n.Β A)::L) ?_ (F.k7 hn y);rw[e];exact F.f7 (Ο:=[obj y.b Oe (OE y),Ω dz 8 N6 y.bG y.hx y.Z,Ψ I9 y.Z])
def kB{nb lb:Nat}{d G:Int}{n:G0}{A:Int}{x:Ow}(hn:(n.Φ.map (·.1)).Nodup)(h:List.lookup A n.Φ=some x)(y:Ow)(hb:y.b=x.b){L:Η}:F (cS gm cy n.mb n.Φ::OJ y (ey I4 (I1 n.Φ A)::obj nb C4 (gL lb d G n.μ n.U n.mb n.mp n.mr)::cS gm cC n.mp n.Β::ey H6 n.Β::cS D5 bL n.mr (J6 n.sh)::L)) (eu nb lb d G { n with Φ:=cZ n.Φ A y } L):=by
 refine(vF hn h y hb).trans ?_;simp only[eu];exact ak
def jp{nb lb:Nat}{d G:Int}{n:G0}{A:Int}{x:J5}(hn:(n.Β.map (·.1)).Nodup)(h:List.lookup A n.Β=some x)(y:J5)(hb:y.b=x.b){L:Η}:F (cS gm cC n.mp n.Β::Pe y (ey H6 (I1 n.Β A)::obj nb C4 (gL lb d G n.μ n.U n.mb n.mp n.mr)::cS gm cy n.mb n.Φ::ey I4 n.Φ::cS D5 bL n.mr (J6 n.sh)::L)) (eu nb lb d G { n with Β:=cZ n.Β A y } L):=by
 refine(Cs hn h y hb).trans ?_;simp only[eu];exact ak
def rE(n:G0)(A:Int)(y:Ow):({ n with Φ:=cZ n.Φ A y }:G0).m={ n.m with Φ:=cZ n.m.Φ A y.m }:=by simp only[G0.m,kM]
def nU(n:G0)(A:Int)(y:J5):({ n with Β:=cZ n.Β A y }:G0).m={ n.m with Β:=cZ n.m.Β A y.m }:=by simp only[G0.m,kM]
def fW{n:G0}{A:Int}:ζ n.m.Φ A=(List.lookup A n.Φ).map Ow.m:=tj Ow.m A n.Φ
def fK{n:G0}{A:Int}:ζ n.m.Β A=(List.lookup A n.Β).map J5.m:=tj J5.m A n.Β
end
section
open Go.V
def dg(S:Ρ):Nat:=(S.D9.map λs=>C5 s.fe).sum
structure WM (x:K6):Prop where
 Z:x.Z.length<=32
 lg:∀l∈x.Z,lR l
 gl:x.iM.length<=100
 gv:∀g∈x.iM,vi g
 un:vi x.C6
structure Vp (p:NF):Prop where
 Z:p.Z.length<=32
 ow:∀o∈p.Z,Rk o
structure adh (d G:Int) (c:B0) (N:υ) (S:Ρ):Prop where
 K1:Oc d c (dg S) S
 U:0<=N.U/\N.U<=dg S
 μ:0<=N.μ/\N.μ<=1000000
 d:0<=d/\d<G/\G<=12
 Φ:∀p∈N.Φ,vi p.1/\WM p.2
 Β:∀p∈N.Β,vi p.1/\Vp p.2
def υ.J1(N:υ)(A:Int)(f:K6->K6):υ:=match ζ N.Φ A with
 | some x=>{ N with Φ:=cZ N.Φ A (f x) }
 | none=>N
def υ.K7(N:υ)(A:Int)(f:NF->NF):υ:=match ζ N.Β A with
 | some p=>{ N with Β:=cZ N.Β A (f p) }
 | none=>N
abbrev L8:=List eU×υ×Ρ
def lS(nb lb:Nat)(d G:Int)(r:L8)(L:Η)(v:Value)(Γ : Η):Prop :=
 ∃ad cap Q n',v=ah ad Q.length cap/\Q.map (·.m)=r.1/\n'.m=r.2.1/\Γ = Ω bq 3 B1 ad cap Q::Ψ gM Q::eu nb lb d G n' (aU lb r.2.2::L)
def gc(E0:Int)(m:G3)(N:υ)(S:Ρ):L8:=([],N.J1 m.A (λx=>{ x with told:=NX x.told E0 }),S)
def eY(ω:Int)(o:hy):hy:=if o.ω=ω/\o.state=1 then { o with state:=2 } else o
def O4(m:G3)(N:υ)(S:Ρ):L8:=([],N.K7 m.A (λp=>{ p with Z:=p.Z.map (eY m.ω) }),S)
def P6(ω:Int)(o:E9):E9:=if o.ω=ω/\o.state=1 then⟨o.Υ,o.ω,2,o.Κ,o.C3,o.F1⟩ else o
def Mo(ω:Int)(o:E9):(P6 ω o).m=eY ω o.m:=by
 unfold P6 eY;by_cases h:o.ω=ω/\o.state=1
 .rw[Χ h,Χ (show o.m.ω=ω/\o.m.state=1 from h)];rfl
 .rw[Ν h,Ν (show ¬(o.m.ω=ω/\o.m.state=1) from h)]
def PW{α:Type}(f:α->α)(i:Nat)(l:List α):List α:=(l.take i).map f++l.drop i
section
variable {α:Type}[Inhabited α]{f:α->α}{i:Nat}{l:List α}
omit [Inhabited α] in
theorem ym:(PW f i l).length=l.length:=by grind [PW]
omit [Inhabited α] in
theorem FX:PW f 0 l=l:=by unfold PW;grind
omit [Inhabited α] in
theorem Iw(h:l.length<=i):PW f i l=l.map f:=by grind [PW,aM]
theorem Cu(h:i<l.length):(PW f i l)[i]! = l[i]!:=by
 grind [PW]
theorem yl(h:i<l.length):(PW f i l).set i (f l[i]!)=PW f (i+1) l:=by
 unfold PW;rw[fw _ _ aj,aB h,aQ,aH,D7 h];congr 1;rw[show i - ((l.take i).map f).length=0 by grind,bY h];rfl
def we(h:i<l.length)(e:f l[i]! = l[i]!):PW f (i+1) l=PW f i l:=by
 have K:=yl (f:=f) h;rw[e,<-Cu (f:=f) h,mU (by rw[ym];exact h)] at K;exact K.symm
end
def KJ{ω:Int}{os:List E9}{L:Η}:F (Ψ I9 os::L) (Ψ I9 (os.map (P6 ω))::L) :=
 F.l0 λy Y=>by
  obtain⟨x,O,rfl⟩:=H9 Y;refine⟨x,O,?_⟩;unfold P6;split<;>rfl
attribute [local irreducible] Α GO GP δ ms GF GE Ev Ef C0 F CB GB V.Enters
abbrev Bw:=Zc [.ev 10,.ev 11]
def Un{φ ψ:Prop}(k:ψ)(h:Hid ψ->φ:=by intro k;(repeat (first|refine ab ?_|intro B6|refine Α.dr 27 1 Bw ?_));(repeat revert B6);exact Hid.out k):φ:=h ⟨k⟩
def BL{L:Η}(nb lb:Nat)(d G:Int)(n:G0)(S:Ρ)(E0 E:Int)(c:O6) :
  Τ Θ 140 #[av nb,J E0,bF (eV c),J E] (eu nb lb d G n (aU lb S::L)) (lS nb lb d G (gc E0 c.m n.m S) L):=by
 refine Τ.bd ?_;simp only[eu,gL];refine Α.c8 (eO (b:=n.mb)) λhn=>?_;cases hg:List.lookup c.A n.Φ with
 | none =>
  have hr:gc E0 c.m n.m S=([],n.m,S):=by
   unfold gc υ.J1;rw[show ζ n.m.Φ c.m.A=none by rw[fW,show c.m.A=c.A from rfl,hg];rfl]
  refine Un ?_;intros;refine δ.Ob (Ev.a8 rfl rfl) ae ?_;rw[hg];dsimp only[Option.map,Option.getD,Option.isSome];refine Un ?_;intros;rw[hr];refine KX.a8 aF ?_ ⟨none,0,[],n,rfl,rfl,rfl,rfl⟩;refine(F.c8 bq 3 B1).trans ((F.a8 gM).trans ?_);simp only[eu,gL];exact ak
 | some x =>
  have hr:gc E0 c.m n.m S=([],({ n with Φ:=cZ n.Φ c.A { x with told:=NX x.told E0 } }:G0).m,S):=by
   unfold gc υ.J1;rw[show ζ n.m.Φ c.m.A=some x.m by rw[fW,show c.m.A=c.A from rfl,hg];rfl];simp only[G0.m,kM];rfl
  refine Α.cL (F.at (Ο:=ey I4 n.Φ) (qY hn hg)) ?_;simp only[OJ,NW];refine Un ?_;intros;refine δ.Ob (Ev.a8 rfl rfl) ae ?_;rw[hg];dsimp only[Option.map,Option.getD,Option.isSome,cy];refine Un ?_;intros;refine GO.NH (Ef.d9 (Ε:=bL) true rfl rfl rfl rfl) ?_;rintro _ _ rfl;rw[Cl];refine Un ?_;intros;rw[hr];refine KX.a8 aF ?_ ⟨none,0,[],({ n with Φ:=cZ n.Φ c.A { x with told:=NX x.told E0 } }:G0),rfl,rfl,rfl,rfl⟩;refine(F.c8 bq 3 B1).trans ((F.a8 gM).trans ?_);simp only[eu,gL];refine F.trans (fG:=cS gm cy n.mb n.Φ::OJ { x with told:=NX x.told E0 } (ey I4 (I1 n.Φ c.A)::Ω bq 3 B1 none 0 []::Ψ gM []::obj nb C4 [av lb,J d,J G,J n.μ,J n.U,.map (some n.mb),.map (some n.mp),.map (some n.mr)]::cS gm cC n.mp n.Β::ey H6 n.Β::cS D5 bL n.mr (J6 n.sh)::aU lb S::L)) ?_ ?_
  .simp only[OJ,NW];exact ak
  .refine(vF hn hg { x with told:=NX x.told E0 } rfl).trans ?_;exact ak
abbrev Bv:=Zc [.ev 10,.ev 11]
abbrev Bu:=Ze [.ev 17,.ev 18,.ev 19,.ev 20,.ev 21]
def Us{φ ψ:Prop}(k:ψ)(h:Hid ψ->φ:=by intro k;(repeat (first|refine ab ?_|intro B6|refine Α.dr 61 1 Bv ?_|refine Α.dr 61 6 Bu ?_));(repeat revert B6);exact Hid.out k):φ:=h ⟨k⟩
def ED{L:Η}(nb lb:Nat)(d G:Int)(n:G0)(S:Ρ)(E0 E:Int)(c:O6)(U:∀p∈n.Β,p.2.Z.length<=1000) :
  Τ Θ 142 #[av nb,J E0,bF (eV c),J E] (eu nb lb d G n (aU lb S::L)) (lS nb lb d G (O4 c.m n.m S) L):=by
 refine Τ.bd ?_;simp only[eu,gL];refine Α.c8 (eO (b:=n.mp)) λhn=>?_;cases hg:List.lookup c.A n.Β with
 | none =>
  have hr:O4 c.m n.m S=([],n.m,S):=by
   unfold O4 υ.K7;rw[show ζ n.m.Β c.m.A=none by rw[fK,show c.m.A=c.A from rfl,hg];rfl]
  refine Us ?_;intros;refine δ.Ob (Ev.a8 rfl rfl) ae ?_;rw[hg];dsimp only[Option.map,Option.getD,Option.isSome];refine Us ?_;intros;rw[hr];refine KX.a8 aF ?_ ⟨none,0,[],n,rfl,rfl,rfl,rfl⟩;refine(F.c8 bq 3 B1).trans ((F.a8 gM).trans ?_);simp only[eu,gL];exact ak
 | some x =>
  have a7:x.Z.length<=1000:=U _ (bQ hg)
  have hr:O4 c.m n.m S=([],({ n with Β:=cZ n.Β c.A { x with Z:=x.Z.map (P6 c.ω) } }:G0).m,S):=by
   unfold O4 υ.K7;rw[show ζ n.m.Β c.m.A=some x.m by rw[fK,show c.m.A=c.A from rfl,hg];rfl];simp only[G0.m,kM,J5.m,co];rw[show(eY c.m.ω ∘ E9.m)=(E9.m ∘ P6 c.ω) from funext λo=>(Mo c.ω o).symm];rfl
  refine Α.cL (F.at (Ο:=ey H6 n.Β) (nr hn hg)) ?_;simp only[Pe,OE];refine Us ?_;intros;refine δ.Ob (Ev.a8 rfl rfl) ae ?_;rw[hg];dsimp only[Option.map,Option.getD,Option.isSome,cC];refine Us ?_;intros;rename_i b6;refine Α.loop (α:=Nat) (λi=>i<=x.Z.length) (λi=>[(6,av b6),(9,.pointer (some ⟨x.b,0,none⟩)),(27,J (x.Z.length:Int)),(28,J (i:Int))]) (λi=>Ω dz 8 N6 x.bG x.hx (PW (P6 c.ω) i x.Z)::obj b6 OM (eV c)::obj x.b Oe [J x.state,J x.Ι,ah x.bG x.Z.length x.hx]::Ψ I9 x.Z::ey H6 (I1 n.Β c.A)::obj nb C4 [av lb,J d,J G,J n.μ,J n.U,.map (some n.mb),.map (some n.mp),.map (some n.mr)]::cS gm cy n.mb n.Φ::ey I4 n.Φ::cS gm cC n.mp n.Β::cS D5 bL n.mr (J6 n.sh)::aU lb S::L) (λi=>x.Z.length - i) 0 D aD (by rw[FX];exact ak) ?_;intro i hi;by_cases a2:i<x.Z.length
  case neg =>
   rw[Iw D];refine Us ?_;intros;rw[hr];refine KX.a8 aF ?_ ⟨none,0,[],({ n with Β:=cZ n.Β c.A { x with Z:=x.Z.map (P6 c.ω) } }:G0),rfl,rfl,rfl,rfl⟩;refine(F.c8 bq 3 B1).trans ((F.a8 gM).trans ?_);simp only[eu,gL];refine(F.at (Ο:=Ψ I9 x.Z) (KJ (ω:=c.ω))).trans ?_;refine F.trans (fG:=cS gm cC n.mp n.Β::Pe { x with Z:=x.Z.map (P6 c.ω) } (ey H6 (I1 n.Β c.A)::Ω bq 3 B1 none 0 []::Ψ gM []::obj nb C4 [av lb,J d,J G,J n.μ,J n.U,.map (some n.mb),.map (some n.mp),.map (some n.mr)]::cS gm cy n.mb n.Φ::ey I4 n.Φ::cS D5 bL n.mr (J6 n.sh)::aU lb S::L)) ?_ ?_
   .simp only[Pe,OE,al];exact ak
   .refine(Cs hn hg { x with Z:=x.Z.map (P6 c.ω) } rfl).trans ?_;exact ak
  have B:(i:Int).toNat=i:=D;have a6:(PW (P6 c.ω) i x.Z).length=x.Z.length:=ym;have M:=Cu (f:=P6 c.ω) a2;by_cases K:(PW (P6 c.ω) i x.Z)[(i:Int).toNat]!.ω=c.ω
  .have a4:=K;rw[B,M] at a4;by_cases T:(PW (P6 c.ω) i x.Z)[(i:Int).toNat]!.state=1
   .have a5:=T;rw[B,M] at a5;refine Us ?_;intros;refine GO.NH (Ef.d7 (Ε:=dz) (e:=P6 c.ω x.Z[i]!) rfl rfl (by rw[B,M];unfold P6;rw[Χ ⟨a4,a5⟩];rfl) rfl D ae) ?_;rintro _ _ rfl;rw[B,yl a2];refine Us ?_;intros;refine⟨i+1,D,D,?_,by exact ak⟩;rw[bC i];exact aD
   .have a3:PW (P6 c.ω) (i+1) x.Z=PW (P6 c.ω) i x.Z:=we a2 (Ν λq=>T (by rw[B,M];exact q.2));refine Us ?_;intros;refine⟨i+1,D,D,?_,by rw[a3];exact ak⟩;rw[bC i];exact aD
  .have a3:PW (P6 c.ω) (i+1) x.Z=PW (P6 c.ω) i x.Z:=we a2 (Ν λq=>K (by rw[B,M];exact q.1));refine Us ?_;intros;refine⟨i+1,D,D,?_,by rw[a3];exact ak⟩;rw[bC i];exact aD
end
section
open Go.V
def C9(Δ A ω:Int)(yes:Bool):G3:=⟨Δ,A,ω,yes,[],[]⟩
def O8(Δ A ω:Int)(yes:Bool):O6:=⟨Δ,A,ω,yes,[],none,0,[],none,0⟩
def jw{Δ A ω:Int}{yes:Bool}(K:vi Δ)(T:vi A)(h3:vi ω):O7 (C9 Δ A ω yes) :=
 ⟨⟨K,T,h3⟩,aC _,λ_ h=>hD h aG,aC _,λ_ h=>hD h aG⟩
def SK{Δ A ω:Int}{yes:Bool}{L:Η}:F L (M9 (O8 Δ A ω yes)::L):=by
 refine(F.f5 (dJ .i64) 1 none).trans ?_;refine(F.a8 iJ).trans ?_;refine(F.f9 (fi fB) (cQ _ _ _ _)).trans ?_;refine(F.f5 aZ 5 none).trans ?_;exact F.f9 (cQ _ _ _ _) (Om.and (fi fB) (cQ _ _ _ _))
def K6.RY(x:K6)(F7:Bool):K6:={ x with dec:=true,F7:=F7 }
def em(d E0:Int)(m:G3)(E:Int)(N:υ)(S:Ρ):L8:=match ζ N.Φ m.A with
 | none=>([],N,S)
 | some x =>
  if x.dec=true then([],N,S)
  else if m.yes=false then(ck d x.iM [] (C9 3 m.A 0 false),{ N with Φ:=cZ N.Φ m.A (x.RY false) },S)
  else if(NX x.I8 E0).length<x.iM.length then([],{ N with Φ:=cZ N.Φ m.A { x with I8:=NX x.I8 E0 } },S)
  else(ck d x.iM [] (C9 3 m.A 0 (dB (E<=x.C6))),{ N with Φ:=cZ N.Φ m.A (({ x with I8:=NX x.I8 E0 }:K6).RY (dB (E<=x.C6))) },S)
theorem oJ(l:List Int):(NA l).length=l.length:=by unfold NA;grind
theorem iQ{κ α:Type}[DecidableEq κ]{l:List (κ×α)}{k:κ}{x:α}(h:ζ l k=some x)(hn:(l.map (·.1)).Nodup):cZ l k x=l:=by
 rw[tq h];refine(aV λp hp=>?_).trans (List.map_id _);by_cases q:p.1=k
 .rw[Χ q];have T:List.lookup p.1 l=some p.2:=fj hn hp;rw[q] at T;have h3:some x=some p.2:=h.symm.trans T;grind
 grind
attribute [local irreducible] Α GO GP δ ms GF GE Ev Ef C0 F CB GB V.Enters
theorem sB{L:Η}(nb lb:Nat)(d G μ U:Int)(mb mp mr:Nat)(A:Int)(B:vi A)(x:Ow)(hg:x.iM.length<=100)(F7:Bool) :
  Τ Θ 145 #[av nb,J A,.pointer (some ⟨x.b,0,none⟩),.bool F7] (obj nb C4 (gL lb d G μ U mb mp mr)::obj x.b PI (NW x)::ξ (dJ .i64) 1 x.G4 x.iM::L) (λv Γ=>∃ad cap Q,v=ah ad Q.length cap/\Q.map (·.m)=ck d x.iM [] (C9 3 A 0 F7)/\Γ = Ω bq 3 B1 ad cap Q::Ψ gM Q::obj nb C4 (gL lb d G μ U mb mp mr)::obj x.b PI (NW { x with dec:=true,F7:=F7 })::ξ (dJ .i64) 1 x.G4 x.iM::L):=by
 have hc:O7 (O8 3 A 0 F7).m:=jw (Δ:=3) (ω:=0) (by unfold vi;omega) B (by unfold vi;omega);refine Τ.bd ?_;simp only[gL,NW];refine Nd ?_;intros;refine GO.cL (Γ:=obj nb C4 [av lb,J d,J G,J μ,J U,.map (some mb),.map (some mp),.map (some mr)]::M9 (O8 3 A 0 F7)::obj x.b PI [ah x.bG x.Z.length x.hx,ah x.G4 x.iM.length x.M3,J x.C6,.map (some x.mv),.map (some x.mt),.bool true,.bool F7]::ξ (dJ .i64) 1 x.G4 x.iM::L) (SK.trans ak) ?_;refine GO.ca (mA nb lb d G μ U mb mp mr { x with dec:=true,F7:=F7 } hg (O8 3 A 0 F7) hc none [] aj) ?_;rintro _ _⟨ad,cap,Q,rfl,M,rfl⟩;simp only[gL,NW];refine Nd ?_;intros;refine KX.a8 aF ak ⟨ad,cap,Q,rfl,M,rfl⟩
abbrev Bt:=Zc [.ev 10,.ev 11]
abbrev Bs:=Zc [.ev 10]
abbrev Br:=Zc [.ef 10,.ev 11]
def UB{φ ψ:Prop}(k:ψ)(h:Hid ψ->φ:=by intro k;(repeat (first|refine ab ?_|intro B6|refine Α.dr 64 1 Bt ?_|refine Α.dr 64 7 Bs ?_|refine Α.dr 64 9 Br ?_));(repeat revert B6);exact Hid.out k):φ:=h ⟨k⟩
theorem BK{L:Η}(nb lb:Nat)(d G:Int)(n:G0)(S:Ρ)(E0 E:Int)(c:O6)(a7:vi c.A)(a5:∀p∈n.Φ,p.2.iM.length<=100) :
  Τ Θ 138 #[av nb,J E0,bF (eV c),J E] (eu nb lb d G n (aU lb S::L)) (lS nb lb d G (em d E0 c.m E n.m S) L):=by
 refine Τ.bd ?_;simp only[eu,gL];refine Α.c8 (eO (b:=n.mb)) λhn=>?_;cases hg:List.lookup c.A n.Φ with
 | none =>
  have hr:em d E0 c.m E n.m S=([],n.m,S):=by
   unfold em;rw[show ζ n.m.Φ c.m.A=none by rw[fW,show c.m.A=c.A from rfl,hg];rfl]
  refine UB ?_;intros;refine δ.Ob (Ev.a8 rfl rfl) ae ?_;rw[hg];dsimp only[Option.map,Option.getD,Option.isSome];refine UB ?_;intros;rw[hr];refine KX.a8 aF ?_ ⟨none,0,[],n,rfl,rfl,rfl,rfl⟩;refine(F.c8 bq 3 B1).trans ((F.a8 gM).trans ?_);simp only[eu,gL];exact ak
 | some x =>
  have U:ζ n.m.Φ c.A=some x.m:=by rw[fW,hg];rfl
  have M:c.m.A=c.A:=rfl;have a6:x.iM.length<=100:=a5 _ (bQ hg);refine Α.cL (F.at (Ο:=ey I4 n.Φ) (qY hn hg)) ?_;simp only[OJ,NW];refine UB ?_;intros;refine δ.Ob (Ev.a8 rfl rfl) ae ?_;rw[hg];dsimp only[Option.map,Option.getD,Option.isSome,cy];have B:=λ (ε:Η) (t:Bool)=>sB (L:=ε) nb lb d G n.μ n.U n.mb n.mp n.mr c.A a7 x a6 t;simp only[NW] at B;cases hd:x.dec with
  | true =>
   have hr:em d E0 c.m E n.m S=([],{ n.m with Φ:=cZ n.m.Φ c.A x.m },S):=by
    unfold em;rw[M,U];dsimp only;rw[Χ (show x.m.dec=true from hd),iQ U (by show((QI Ow.m n.Φ).map (·.1)).Nodup;rw[jQ];exact hn)]
   refine UB ?_;intros;rw[hr];refine KX.a8 aF ?_ ⟨none,0,[],({ n with Φ:=cZ n.Φ c.A x }:G0),rfl,rfl,rE n c.A x,rfl⟩;refine(F.c8 bq 3 B1).trans ((F.a8 gM).trans ?_);refine F.trans ?_ (F.c7 (F.c7 (kB hn hg x rfl)));simp only[OJ,NW,gL,hd];exact ak
  | false =>
   rw[hd] at B;cases Y:c.yes with
   | false =>
    have hr:em d E0 c.m E n.m S=(ck d x.iM [] (C9 3 c.A 0 false),{ n.m with Φ:=cZ n.m.Φ c.A (x.m.RY false) },S):=by
     unfold em;rw[M,U];dsimp only;rw[Ν (by rw[show x.m.dec=false from hd];grind),Χ (show c.m.yes=false from Y)];rfl
    refine UB ?_;intros;rw[Y,show(!false)=true from rfl];refine UB ?_;intros;refine GO.cL (Γ:=obj nb C4 [av lb,J d,J G,J n.μ,J n.U,.map (some n.mb),.map (some n.mp),.map (some n.mr)]::obj x.b PI [ah x.bG x.Z.length x.hx,ah x.G4 x.iM.length x.M3,J x.C6,.map (some x.mv),.map (some x.mt),.bool false,.bool x.F7]::ξ (dJ .i64) 1 x.G4 x.iM::(cS gm bL x.mv (NA x.I8)::cS gm bL x.mt (NA x.told)::ξ aZ 5 x.bG x.Z::Ψ iJ x.Z::ey I4 (I1 n.Φ c.A)::cS gm cy n.mb n.Φ::cS gm cC n.mp n.Β::ey H6 n.Β::cS D5 bL n.mr (J6 n.sh)::aU lb S::L)) ak ?_;refine GO.ca (B _ false) ?_;rintro _ _⟨ad,cap,Q,rfl,a3,rfl⟩;simp only[gL];refine UB ?_;intros;rw[hr];refine KX.a8 aF ?_ ⟨ad,cap,Q,({ n with Φ:=cZ n.Φ c.A { x with dec:=true,F7:=false } }:G0),rfl,a3,rE n c.A { x with dec:=true,F7:=false },rfl⟩;refine F.trans ?_ (F.c7 (F.c7 (kB hn hg { x with dec:=true,F7:=false } rfl)));simp only[OJ,NW,gL];exact ak
   | true =>
    refine UB ?_;intros;rw[Y,show(!true)=false from rfl];refine UB ?_;intros;refine GO.NH (Ef.d9 (Ε:=bL) true rfl rfl rfl rfl) ?_;rintro _ _ rfl;rw[Cl];refine UB ?_;intros;refine δ.Ob (Ev.Ue rfl) ae ?_;rw[oJ];by_cases a4:(NX x.I8 E0).length<x.iM.length
    .have a2 : ((NX x.I8 E0).length:Int)<(x.iM.length:Int):=D
     have hr:em d E0 c.m E n.m S=([],{ n.m with Φ:=cZ n.m.Φ c.A { x.m with I8:=NX x.I8 E0 } },S):=by
      unfold em;rw[M,U];dsimp only;rw[Ν (by rw[show x.m.dec=false from hd];grind),Ν (by rw[show c.m.yes=true from Y];grind),Χ (show(NX x.m.I8 E0).length<x.m.iM.length from a4)];rfl
     refine UB ?_;intros;rw[hr];refine KX.a8 aF ?_ ⟨none,0,[],({ n with Φ:=cZ n.Φ c.A { x with I8:=NX x.I8 E0 } }:G0),rfl,rfl,rE n c.A { x with I8:=NX x.I8 E0 },rfl⟩;refine(F.c8 bq 3 B1).trans ((F.a8 gM).trans ?_);refine F.trans ?_ (F.c7 (F.c7 (kB hn hg { x with I8:=NX x.I8 E0 } rfl)));simp only[OJ,NW,gL,hd];exact ak
    .have a2 : ¬((NX x.I8 E0).length:Int)<(x.iM.length:Int):=D
     have hr:em d E0 c.m E n.m S=(ck d x.iM [] (C9 3 c.A 0 (dB (E<=x.C6))),{ n.m with Φ:=cZ n.m.Φ c.A (({ x.m with I8:=NX x.I8 E0 }:K6).RY (dB (E<=x.C6))) },S):=by
      unfold em;rw[M,U];dsimp only;rw[Ν (by rw[show x.m.dec=false from hd];grind),Ν (by rw[show c.m.yes=true from Y];grind),Ν (show ¬(NX x.m.I8 E0).length<x.m.iM.length from a4)];rfl
     refine UB ?_;intros;refine δ.cL (Γ:=obj nb C4 [av lb,J d,J G,J n.μ,J n.U,.map (some n.mb),.map (some n.mp),.map (some n.mr)]::obj x.b PI [ah x.bG x.Z.length x.hx,ah x.G4 x.iM.length x.M3,J x.C6,.map (some x.mv),.map (some x.mt),.bool false,.bool x.F7]::ξ (dJ .i64) 1 x.G4 x.iM::(cS gm bL x.mv (NA (NX x.I8 E0))::cS gm bL x.mt (NA x.told)::ξ aZ 5 x.bG x.Z::Ψ iJ x.Z::ey I4 (I1 n.Φ c.A)::cS gm cy n.mb n.Φ::cS gm cC n.mp n.Β::ey H6 n.Β::cS D5 bL n.mr (J6 n.sh)::aU lb S::L)) ak ?_;refine δ.ca (B _ (dB (E<=x.C6))) ?_;rintro _ _⟨ad,cap,Q,rfl,a3,rfl⟩;simp only[gL];refine UB ?_;intros;rw[hr];refine KX.a8 aF ?_ ⟨ad,cap,Q,({ n with Φ:=cZ n.Φ c.A { x with I8:=NX x.I8 E0,dec:=true,F7:=dB (E<=x.C6) } }:G0),rfl,a3,rE n c.A { x with I8:=NX x.I8 E0,dec:=true,F7:=dB (E<=x.C6) },rfl⟩;refine F.trans ?_ (F.c7 (F.c7 (kB hn hg { x with I8:=NX x.I8 E0,dec:=true,F7:=dB (E<=x.C6) } rfl)));simp only[OJ,NW,gL,hd];exact ak
