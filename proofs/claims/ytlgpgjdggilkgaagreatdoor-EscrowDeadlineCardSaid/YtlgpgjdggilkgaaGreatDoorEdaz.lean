/- Lemmas. -/
import Derived.Test.YtlgpgjdggilkgaaGreatDoorEday
set_option linter.all false
set_option maxHeartbeats 4000000
namespace Go.Proofs.YtlgpgjdggilkgaaGreatDoor
section
open Go.V
structure K4 where
 Α:List x4
 lq:List Int
 C7:Int
 I8:List Int
 told:List Int
 dec:Bool
 F4:Bool
 deriving Inhabited,DecidableEq
def N8.m(x:N8):K4:=⟨x.Α.map (·.m),x.lq,x.C7,x.I8,x.told,x.dec,x.F4⟩
structure ω where
 ν:Int
 T:Int
 Ψ:List (Int×K4)
 Γ:List (Int×Nl)
 wk:List (Int×Int)
 deriving Inhabited
def Zi(x:N8):HP:=cw [obj x.b Pg (NC x),ew gT bM x.mv (Nh x.I8),ew gT bM x.mt (Nh x.told),τ aZ 5 x.bD x.Α,η ms x.Α,τ (eU .i64) 1 x.M4 x.lq]
def Zj(p:J6):HP:=cw [obj p.b NS (Of p),μ dy 8 NN p.bD p.id p.Α,η I9 p.Α]
def I2(p:Int×N8):HP:=Zi p.2
def H6(p:Int×J6):HP:=Zj p.2
def cz(x:N8):Value:=.pointer (some ⟨x.b,0,none⟩)
def cC(p:J6):Value:=.pointer (some ⟨p.b,0,none⟩)
def J7(l:List (Int×Int)):List ((Int×Int)×Bool):=l.map λg=>(g,true)
structure G2 where
 mb:Nat
 mp:Nat
 mr:Nat
 ν:Int
 T:Int
 Ψ:List (Int×N8)
 Γ:List (Int×J6)
 wk:List (Int×Int)
 deriving Inhabited
def Qn{κ α β:Type}(f:α->β)(l:List (κ×α)):List (κ×β):=l.map λp=>(p.1,f p.2)
def G2.m(n:G2):ω:=⟨n.ν,n.T,Qn N8.m n.Ψ,Qn J6.m n.Γ,n.wk⟩
def fh(nb lb:Nat)(d F:Int)(n:G2)(L:Ι):Ι:=obj nb C5 (hl lb d F n.ν n.T n.mb n.mp n.mr)::ew gT cz n.mb n.Ψ::h2 I2 n.Ψ::ew gT cC n.mp n.Γ::h2 H6 n.Γ::ew D6 bM n.mr (J7 n.wk)::L
section
variable {κ α β:Type}[DecidableEq κ]
def tj(f:α->β)(k:κ):∀l:List (κ×α),ε (Qn f l) k=(ε l k).map f
 | []=>rfl
 | p::l=>by
  obtain⟨q,a⟩:=p;have ih:=tj f k l;unfold ε Qn at ih ⊢;rw[al,cA,cA];by_cases h:k=q
  .subst h;simp
  .have Q:(k == q)=false:=by simpa using h
   simp only[Q,ih]
omit [DecidableEq κ] in
def jO(f:α->β)(l:List (κ×α)):(Qn f l).map (·.1)=l.map (·.1):=by
 unfold Qn;rw[cu];rfl
theorem kK(f:α->β)(k:κ)(a:α)(l:List (κ×α)):Qn f (ez l k a)=ez (Qn f l) k (f a):=by
 grind [Qn,List.any_map,ez,aU]
theorem tq{l:List (κ×α)}{k:κ}{x:α}(h:ε l k=some x)(a:α):ez l k a=l.map λp=>if p.1=k then(k,a) else p:=by
 unfold ez;rw[Ω];refine List.any_eq_true.2 ⟨(k,x),bR h,by simp⟩
theorem pM{l:List (κ×α)}{k:κ}(h:ε l k=none)(a:α):ez l k a=l++[(k,a)]:=by
 unfold ez;rw[Ο];intro q;obtain⟨p,I,Q⟩:=List.any_eq_true.1 q;exact ns h ah
theorem E.l9{kv:κ->Value}{Η:α->Value}{b:Nat}{l:List (κ×α)}{k:κ}{x a:α}(h:ε l k=some x)(hn:(l.map (·.1)).Nodup)(he:Η a=Η x){L:Ι}:E (ew kv Η b l::L) (ew kv Η b (ez l k a)::L):=λθ R w s=>by
 obtain⟨es,A,I,Q,h3,h4,h5,s2⟩:=Sat.SK (L:=L++R) s;refine Sat.c8 s2 ?_ (iE Q) h3 h4 h5;rw[I,tq h,cu];refine aU λp hp=>?_;simp only[Function.comp_apply];by_cases q:p.1=k
 .rw[Ω q];have J:ε l p.1=some p.2:=fo hn hp;grind
 grind
def E.l7{f:κ×α->HP}{l:List (κ×α)}{k:κ}{x:α}(hn:(l.map (·.1)).Nodup)(h:ε l k=some x){L:Ι}:E (h2 f l::L) (f (k,x)::h2 f (I1 l k)::L):=(E.j8 (me hn h)).trans E.Vi
def E.k8{f:κ×α->HP}{l:List (κ×α)}{k:κ}(hn:(l.map (·.1)).Nodup)(a:α){L:Ι}:E (f (k,a)::h2 f (I1 l k)::L) (h2 f (ez l k a)::L):=(E.Vh (f:=f) (x:=(k,a))).trans (E.j8 (qT hn).symm)
end
def ND(l:List Int)(a:Int):List Int:=if a∈l then l else l++[a]
theorem Cj(l:List Int)(a:Int):ez (Nh l) a true=Nh (ND l a):=by
 unfold ND;split
 .rename_i h;have hs:∀(l:List Int),ε (Nh l) a=none->a∉l:=λl h q=>ns h (List.mem_map.2 ⟨(a,true),List.mem_map.2 ⟨a,q,rfl⟩,rfl⟩);cases hg:ε (Nh l) a with
  | none=>grind
  | some b =>
   grind [tq,Nh,aU]
 grind [ε,Nh,pM]
def Oj(x:N8)(L:Ι):Ι:=obj x.b Pg (NC x)::ew gT bM x.mv (Nh x.I8)::ew gT bM x.mt (Nh x.told)::τ aZ 5 x.bD x.Α::η ms x.Α::τ (eU .i64) 1 x.M4 x.lq::L
def qY{n:G2}{r:Int}{x:N8}(hn:(n.Ψ.map (·.1)).Nodup)(h:List.lookup r n.Ψ=some x){L:Ι}:E (h2 I2 n.Ψ::L) (Oj x (h2 I2 (I1 n.Ψ r)::L)):=(E.l7 hn h).trans E.SL
def vJ{n:G2}{r:Int}{x:N8}(hn:(n.Ψ.map (·.1)).Nodup)(h:List.lookup r n.Ψ=some x)(y:N8)(hb:y.b=x.b){L:Ι}:E (ew gT cz n.mb n.Ψ::Oj y (h2 I2 (I1 n.Ψ r)::L)) (ew gT cz n.mb (ez n.Ψ r y)::h2 I2 (ez n.Ψ r y)::L):=by
 refine(E.l9 (a:=y) h hn (by unfold cz;rw[hb])).trans (E.a8 ?_);refine E.trans (hx:=I2 (r,y)::h2 I2 (I1 n.Ψ r)::L) ?_ (E.k8 hn y);exact E.f8 (Φ:=[obj y.b Pg (NC y),ew gT bM y.mv (Nh y.I8),ew gT bM y.mt (Nh y.told),τ aZ 5 y.bD y.Α,η ms y.Α,τ (eU .i64) 1 y.M4 y.lq])
def OU(p:J6)(L:Ι):Ι:=obj p.b NS (Of p)::μ dy 8 NN p.bD p.id p.Α::η I9 p.Α::L
def nk{n:G2}{r:Int}{x:J6}(hn:(n.Γ.map (·.1)).Nodup)(h:List.lookup r n.Γ=some x){L:Ι}:E (h2 H6 n.Γ::L) (OU x (h2 H6 (I1 n.Γ r)::L)):=(E.l7 hn h).trans E.SL
def Cq{n:G2}{r:Int}{x:J6}(hn:(n.Γ.map (·.1)).Nodup)(h:List.lookup r n.Γ=some x)(y:J6)(hb:y.b=x.b){L:Ι}:E (ew gT cC n.mp n.Γ::OU y (h2 H6 (I1 n.Γ r)::L)) (ew gT cC n.mp (ez n.Γ r y)::h2 H6 (ez n.Γ r y)::L):=by
 refine(E.l9 (a:=y) h hn (by unfold cC;rw[hb])).trans (E.a8 ?_);refine E.trans (hx:=H6 (r,y)::h2 H6 (I1 n.Γ r)::L) ?_ (E.k8 hn y);exact E.f8 (Φ:=[obj y.b NS (Of y),μ dy 8 NN y.bD y.id y.Α,η I9 y.Α])
theorem Mx{n:G2}{r:Int}(hn:(n.Γ.map (·.1)).Nodup)(h:List.lookup r n.Γ=none)(y:J6){L:Ι}:E (OU y (h2 H6 n.Γ::L)) (h2 H6 (ez n.Γ r y)::L):=by
 have e:I1 n.Γ r=n.Γ:=pN ah;refine E.trans (hx:=H6 (r,y)::h2 H6 (I1 n.Γ r)::L) ?_ (E.k8 hn y);rw[e];exact E.f8 (Φ:=[obj y.b NS (Of y),μ dy 8 NN y.bD y.id y.Α,η I9 y.Α])
def kz{nb lb:Nat}{d F:Int}{n:G2}{r:Int}{x:N8}(hn:(n.Ψ.map (·.1)).Nodup)(h:List.lookup r n.Ψ=some x)(y:N8)(hb:y.b=x.b){L:Ι}:E (ew gT cz n.mb n.Ψ::Oj y (h2 I2 (I1 n.Ψ r)::obj nb C5 (hl lb d F n.ν n.T n.mb n.mp n.mr)::ew gT cC n.mp n.Γ::h2 H6 n.Γ::ew D6 bM n.mr (J7 n.wk)::L)) (fh nb lb d F { n with Ψ:=ez n.Ψ r y } L):=by
 refine(vJ hn h y hb).trans ?_;simp only[fh];exact aj
def jo{nb lb:Nat}{d F:Int}{n:G2}{r:Int}{x:J6}(hn:(n.Γ.map (·.1)).Nodup)(h:List.lookup r n.Γ=some x)(y:J6)(hb:y.b=x.b){L:Ι}:E (ew gT cC n.mp n.Γ::OU y (h2 H6 (I1 n.Γ r)::obj nb C5 (hl lb d F n.ν n.T n.mb n.mp n.mr)::ew gT cz n.mb n.Ψ::h2 I2 n.Ψ::ew D6 bM n.mr (J7 n.wk)::L)) (fh nb lb d F { n with Γ:=ez n.Γ r y } L):=by
 refine(Cq hn h y hb).trans ?_;simp only[fh];exact aj
def rF(n:G2)(r:Int)(y:N8):({ n with Ψ:=ez n.Ψ r y }:G2).m={ n.m with Ψ:=ez n.m.Ψ r y.m }:=by simp only[G2.m,kK]
def nM(n:G2)(r:Int)(y:J6):({ n with Γ:=ez n.Γ r y }:G2).m={ n.m with Γ:=ez n.m.Γ r y.m }:=by simp only[G2.m,kK]
def fX{n:G2}{r:Int}:ε n.m.Ψ r=(List.lookup r n.Ψ).map N8.m:=tj N8.m r n.Ψ
def fN{n:G2}{r:Int}:ε n.m.Γ r=(List.lookup r n.Γ).map J6.m:=tj J6.m r n.Γ
end
section
open Go.V
def ey(S:Τ):Nat:=(S.Ev.map λs=>C6 s.gN).sum
structure Wl (x:K4):Prop where
 Α:x.Α.length<=32
 lg:∀l∈x.Α,lP l
 gl:x.lq.length<=100
 gv:∀g∈x.lq,xs g
 un:xs x.C7
structure UT (p:Nl):Prop where
 Α:p.Α.length<=32
 ow:∀o∈p.Α,QU o
structure ac6 (d F:Int) (c:B4) (N:ω) (S:Τ):Prop where
 J1:NQ d c (ey S) S
 T:0<=N.T/\N.T<=ey S
 ν:0<=N.ν/\N.ν<=1000000
 d:0<=d/\d<F/\F<=12
 Ψ:∀p∈N.Ψ,xs p.1/\Wl p.2
 Γ:∀p∈N.Γ,xs p.1/\UT p.2
def ω.J2(N:ω)(r:Int)(f:K4->K4):ω:=match ε N.Ψ r with
 | some x=>{ N with Ψ:=ez N.Ψ r (f x) }
 | none=>N
def ω.K5(N:ω)(r:Int)(f:Nl->Nl):ω:=match ε N.Γ r with
 | some p=>{ N with Γ:=ez N.Γ r (f p) }
 | none=>N
abbrev L6:=List fK×ω×Τ
def lQ(nb lb:Nat)(d F:Int)(Δ:L6)(L:Ι)(v:Value)(Ε : Ι):Prop :=
 ∃ad cap O n',v=ae ad O.length cap/\O.map (·.m)=Δ.1/\n'.m=Δ.2.1/\Ε = μ be 3 B2 ad cap O::η gO O::fh nb lb d F n' (aT lb Δ.2.2::L)
def gd(E0:Int)(m:G4)(N:ω)(S:Τ):L6:=([],N.J2 m.r (λx=>{ x with told:=ND x.told E0 }),S)
def eY(ai:Int)(o:hD):hD:=if o.ai=ai/\o.state=1 then { o with state:=2 } else o
def OI(m:G4)(N:ω)(S:Τ):L6:=([],N.K5 m.r (λp=>{ p with Α:=p.Α.map (eY m.ai) }),S)
def PL(ai:Int)(o:E9):E9:=if o.ai=ai/\o.state=1 then⟨o.Χ,o.ai,2,o.Μ,o.C4,o.F3⟩ else o
def LX(ai:Int)(o:E9):(PL ai o).m=eY ai o.m:=by
 unfold PL eY;by_cases h:o.ai=ai/\o.state=1
 .rw[Ω h,Ω (show o.m.ai=ai/\o.m.state=1 from h)];rfl
 .rw[Ο h,Ο (show ¬(o.m.ai=ai/\o.m.state=1) from h)]
def Py{α:Type}(f:α->α)(i:Nat)(l:List α):List α:=(l.take i).map f++l.drop i
section
variable {α:Type}[Inhabited α]{f:α->α}{i:Nat}{l:List α}
omit [Inhabited α] in
theorem yp:(Py f i l).length=l.length:=by grind [Py]
omit [Inhabited α] in
theorem FR:Py f 0 l=l:=by unfold Py;grind
omit [Inhabited α] in
theorem Il(h:l.length<=i):Py f i l=l.map f:=by grind [Py,aN]
theorem Cs(h:i<l.length):(Py f i l)[i]! = l[i]!:=by
 grind [Py]
theorem yo(h:i<l.length):(Py f i l).set i (f l[i]!)=Py f (i+1) l:=by
 unfold Py;rw[fB _ _ ah,aB h,aQ,aF,E7 h];congr 1;rw[show i - ((l.take i).map f).length=0 by grind,bZ h];rfl
def wn(h:i<l.length)(e:f l[i]! = l[i]!):Py f (i+1) l=Py f i l:=by
 have I:=yo (f:=f) h;rw[e,<-Cs (f:=f) h,mQ (by rw[yp];exact h)] at I;exact I.symm
end
def Ks{ai:Int}{os:List E9}{L:Ι}:E (η I9 os::L) (η I9 (os.map (PL ai))::L) :=
 E.l8 λy U=>by
  obtain⟨x,M,rfl⟩:=H8 U;refine⟨x,M,?_⟩;unfold PL;split<;>rfl
attribute [local irreducible] Β Y GP δ vi GF GE Z Ef C0 E CB GB V.Enters
abbrev Bs:=Yu [.ev 10,.ev 11]
def TV{φ ψ:Prop}(k:ψ)(h:Hid ψ->φ:=by intro k;(repeat (first|refine ab ?_|intro B8|refine Β.dr 27 1 Bs ?_));(repeat revert B8);exact Hid.out k):φ:=h ⟨k⟩
def BH{L:Ι}(nb lb:Nat)(d F:Int)(n:G2)(S:Τ)(E0 B:Int)(c:OK) :
  Υ Λ 140 #[ay nb,K E0,bC (eO c),K B] (fh nb lb d F n (aT lb S::L)) (lQ nb lb d F (gd E0 c.m n.m S) L):=by
 refine Υ.bd ?_;simp only[fh,hl];refine Β.c8 (eN (b:=n.mb)) λhn=>?_;cases hg:List.lookup c.r n.Ψ with
 | none =>
  have hr:gd E0 c.m n.m S=([],n.m,S):=by
   unfold gd ω.J2;rw[show ε n.m.Ψ c.m.r=none by rw[fX,show c.m.r=c.r from rfl,hg];rfl]
  refine TV ?_;intros;refine δ.NV (Z.a8 rfl rfl) ac ?_;rw[hg];dsimp only[Option.map,Option.getD,Option.isSome];refine TV ?_;intros;rw[hr];refine KX.a8 aC ?_ ⟨none,0,[],n,rfl,rfl,rfl,rfl⟩;refine(E.c8 be 3 B2).trans ((E.c7 gO).trans ?_);simp only[fh,hl];exact aj
 | some x =>
  have hr:gd E0 c.m n.m S=([],({ n with Ψ:=ez n.Ψ c.r { x with told:=ND x.told E0 } }:G2).m,S):=by
   unfold gd ω.J2;rw[show ε n.m.Ψ c.m.r=some x.m by rw[fX,show c.m.r=c.r from rfl,hg];rfl];simp only[G2.m,kK];rfl
  refine Β.cM (E.at (Φ:=h2 I2 n.Ψ) (qY hn hg)) ?_;simp only[Oj,NC];refine TV ?_;intros;refine δ.NV (Z.a8 rfl rfl) ac ?_;rw[hg];dsimp only[Option.map,Option.getD,Option.isSome,cz];refine TV ?_;intros;refine Y.No (Ef.d9 (Η:=bM) true rfl rfl rfl rfl) ?_;rintro _ _ rfl;rw[Cj];refine TV ?_;intros;rw[hr];refine KX.a8 aC ?_ ⟨none,0,[],({ n with Ψ:=ez n.Ψ c.r { x with told:=ND x.told E0 } }:G2),rfl,rfl,rfl,rfl⟩;refine(E.c8 be 3 B2).trans ((E.c7 gO).trans ?_);simp only[fh,hl];refine E.trans (hx:=ew gT cz n.mb n.Ψ::Oj { x with told:=ND x.told E0 } (h2 I2 (I1 n.Ψ c.r)::μ be 3 B2 none 0 []::η gO []::obj nb C5 [ay lb,K d,K F,K n.ν,K n.T,.map (some n.mb),.map (some n.mp),.map (some n.mr)]::ew gT cC n.mp n.Γ::h2 H6 n.Γ::ew D6 bM n.mr (J7 n.wk)::aT lb S::L)) ?_ ?_
  .simp only[Oj,NC];exact aj
  .refine(vJ hn hg { x with told:=ND x.told E0 } rfl).trans ?_;exact aj
abbrev Br:=Yu [.ev 10,.ev 11]
abbrev Bq:=Yw [.ev 17,.ev 18,.ev 19,.ev 20,.ev 21]
def Ua{φ ψ:Prop}(k:ψ)(h:Hid ψ->φ:=by intro k;(repeat (first|refine ab ?_|intro B8|refine Β.dr 61 1 Br ?_|refine Β.dr 61 6 Bq ?_));(repeat revert B8);exact Hid.out k):φ:=h ⟨k⟩
def Ex{L:Ι}(nb lb:Nat)(d F:Int)(n:G2)(S:Τ)(E0 B:Int)(c:OK)(T:∀p∈n.Γ,p.2.Α.length<=1000) :
  Υ Λ 142 #[ay nb,K E0,bC (eO c),K B] (fh nb lb d F n (aT lb S::L)) (lQ nb lb d F (OI c.m n.m S) L):=by
 refine Υ.bd ?_;simp only[fh,hl];refine Β.c8 (eN (b:=n.mp)) λhn=>?_;cases hg:List.lookup c.r n.Γ with
 | none =>
  have hr:OI c.m n.m S=([],n.m,S):=by
   unfold OI ω.K5;rw[show ε n.m.Γ c.m.r=none by rw[fN,show c.m.r=c.r from rfl,hg];rfl]
  refine Ua ?_;intros;refine δ.NV (Z.a8 rfl rfl) ac ?_;rw[hg];dsimp only[Option.map,Option.getD,Option.isSome];refine Ua ?_;intros;rw[hr];refine KX.a8 aC ?_ ⟨none,0,[],n,rfl,rfl,rfl,rfl⟩;refine(E.c8 be 3 B2).trans ((E.c7 gO).trans ?_);simp only[fh,hl];exact aj
 | some x =>
  have a7:x.Α.length<=1000:=T _ (bR hg)
  have hr:OI c.m n.m S=([],({ n with Γ:=ez n.Γ c.r { x with Α:=x.Α.map (PL c.ai) } }:G2).m,S):=by
   unfold OI ω.K5;rw[show ε n.m.Γ c.m.r=some x.m by rw[fN,show c.m.r=c.r from rfl,hg];rfl];simp only[G2.m,kK,J6.m,cu];rw[show(eY c.m.ai ∘ E9.m)=(E9.m ∘ PL c.ai) from funext λo=>(LX c.ai o).symm];rfl
  refine Β.cM (E.at (Φ:=h2 H6 n.Γ) (nk hn hg)) ?_;simp only[OU,Of];refine Ua ?_;intros;refine δ.NV (Z.a8 rfl rfl) ac ?_;rw[hg];dsimp only[Option.map,Option.getD,Option.isSome,cC];refine Ua ?_;intros;rename_i b6;refine Β.loop (α:=Nat) (λi=>i<=x.Α.length) (λi=>[(6,ay b6),(9,.pointer (some ⟨x.b,0,none⟩)),(27,K (x.Α.length:Int)),(28,K (i:Int))]) (λi=>μ dy 8 NN x.bD x.id (Py (PL c.ai) i x.Α)::obj b6 Oo (eO c)::obj x.b NS [K x.state,K x.Κ,ae x.bD x.Α.length x.id]::η I9 x.Α::h2 H6 (I1 n.Γ c.r)::obj nb C5 [ay lb,K d,K F,K n.ν,K n.T,.map (some n.mb),.map (some n.mp),.map (some n.mr)]::ew gT cz n.mb n.Ψ::h2 I2 n.Ψ::ew gT cC n.mp n.Γ::ew D6 bM n.mr (J7 n.wk)::aT lb S::L) (λi=>x.Α.length - i) 0 D aG (by rw[FR];exact aj) ?_;intro i hi;by_cases a2:i<x.Α.length
  case neg =>
   rw[Il D];refine Ua ?_;intros;rw[hr];refine KX.a8 aC ?_ ⟨none,0,[],({ n with Γ:=ez n.Γ c.r { x with Α:=x.Α.map (PL c.ai) } }:G2),rfl,rfl,rfl,rfl⟩;refine(E.c8 be 3 B2).trans ((E.c7 gO).trans ?_);simp only[fh,hl];refine(E.at (Φ:=η I9 x.Α) (Ks (ai:=c.ai))).trans ?_;refine E.trans (hx:=ew gT cC n.mp n.Γ::OU { x with Α:=x.Α.map (PL c.ai) } (h2 H6 (I1 n.Γ c.r)::μ be 3 B2 none 0 []::η gO []::obj nb C5 [ay lb,K d,K F,K n.ν,K n.T,.map (some n.mb),.map (some n.mp),.map (some n.mr)]::ew gT cz n.mb n.Ψ::h2 I2 n.Ψ::ew D6 bM n.mr (J7 n.wk)::aT lb S::L)) ?_ ?_
   .simp only[OU,Of,ak];exact aj
   .refine(Cq hn hg { x with Α:=x.Α.map (PL c.ai) } rfl).trans ?_;exact aj
  have A:(i:Int).toNat=i:=D;have a6:(Py (PL c.ai) i x.Α).length=x.Α.length:=yp;have J:=Cs (f:=PL c.ai) a2;by_cases I:(Py (PL c.ai) i x.Α)[(i:Int).toNat]!.ai=c.ai
  .have a4:=I;rw[A,J] at a4;by_cases Q:(Py (PL c.ai) i x.Α)[(i:Int).toNat]!.state=1
   .have a5:=Q;rw[A,J] at a5;refine Ua ?_;intros;refine Y.No (Ef.d7 (Η:=dy) (e:=PL c.ai x.Α[i]!) rfl rfl (by rw[A,J];unfold PL;rw[Ω ⟨a4,a5⟩];rfl) rfl D ac) ?_;rintro _ _ rfl;rw[A,yo a2];refine Ua ?_;intros;refine⟨i+1,D,D,?_,by exact aj⟩;rw[bJ i];exact aG
   .have a3:Py (PL c.ai) (i+1) x.Α=Py (PL c.ai) i x.Α:=wn a2 (Ο λq=>Q (by rw[A,J];exact q.2));refine Ua ?_;intros;refine⟨i+1,D,D,?_,by rw[a3];exact aj⟩;rw[bJ i];exact aG
  .have a3:Py (PL c.ai) (i+1) x.Α=Py (PL c.ai) i x.Α:=wn a2 (Ο λq=>I (by rw[A,J];exact q.1));refine Ua ?_;intros;refine⟨i+1,D,D,?_,by rw[a3];exact aj⟩;rw[bJ i];exact aG
end
section
open Go.V
def D4(Ζ r ai:Int)(yes:Bool):G4:=⟨Ζ,r,ai,yes,[],[]⟩
def OM(Ζ r ai:Int)(yes:Bool):OK:=⟨Ζ,r,ai,yes,[],none,0,[],none,0⟩
def jt{Ζ r ai:Int}{yes:Bool}(I:xs Ζ)(Q:xs r)(h3:xs ai):OL (D4 Ζ r ai yes) :=
 ⟨⟨I,Q,h3⟩,aD _,λ_ h=>iJ h aH,aD _,λ_ h=>iJ h aH⟩
def Sd{Ζ r ai:Int}{yes:Bool}{L:Ι}:E L (MV (OM Ζ r ai yes)::L):=by
 refine(E.f7 (eU .i64) 1 none).trans ?_;refine(E.c7 ms).trans ?_;refine(E.g8 (eV fx) (cT _ _ _ _)).trans ?_;refine(E.f7 aZ 5 none).trans ?_;exact E.g8 (cT _ _ _ _) (Og.and (eV fx) (cT _ _ _ _))
def K4.Rw(x:K4)(F4:Bool):K4:={ x with dec:=true,F4:=F4 }
def eu(d E0:Int)(m:G4)(B:Int)(N:ω)(S:Τ):L6:=match ε N.Ψ m.r with
 | none=>([],N,S)
 | some x =>
  if x.dec=true then([],N,S)
  else if m.yes=false then(ck d x.lq [] (D4 3 m.r 0 false),{ N with Ψ:=ez N.Ψ m.r (x.Rw false) },S)
  else if(ND x.I8 E0).length<x.lq.length then([],{ N with Ψ:=ez N.Ψ m.r { x with I8:=ND x.I8 E0 } },S)
  else(ck d x.lq [] (D4 3 m.r 0 (dB (B<=x.C7))),{ N with Ψ:=ez N.Ψ m.r (({ x with I8:=ND x.I8 E0 }:K4).Rw (dB (B<=x.C7))) },S)
theorem oE(l:List Int):(Nh l).length=l.length:=by unfold Nh;grind
theorem iQ{κ α:Type}[DecidableEq κ]{l:List (κ×α)}{k:κ}{x:α}(h:ε l k=some x)(hn:(l.map (·.1)).Nodup):ez l k x=l:=by
 rw[tq h];refine(aU λp hp=>?_).trans (List.map_id _);by_cases q:p.1=k
 .rw[Ω q];have Q:List.lookup p.1 l=some p.2:=fo hn hp;rw[q] at Q;have h3:some x=some p.2:=h.symm.trans Q;grind
 grind
attribute [local irreducible] Β Y GP δ vi GF GE Z Ef C0 E CB GB V.Enters
theorem sB{L:Ι}(nb lb:Nat)(d F ν T:Int)(mb mp mr:Nat)(r:Int)(A:xs r)(x:N8)(hg:x.lq.length<=100)(F4:Bool) :
  Υ Λ 145 #[ay nb,K r,.pointer (some ⟨x.b,0,none⟩),.bool F4] (obj nb C5 (hl lb d F ν T mb mp mr)::obj x.b Pg (NC x)::τ (eU .i64) 1 x.M4 x.lq::L) (λv Ε=>∃ad cap O,v=ae ad O.length cap/\O.map (·.m)=ck d x.lq [] (D4 3 r 0 F4)/\Ε = μ be 3 B2 ad cap O::η gO O::obj nb C5 (hl lb d F ν T mb mp mr)::obj x.b Pg (NC { x with dec:=true,F4:=F4 })::τ (eU .i64) 1 x.M4 x.lq::L):=by
 have hc:OL (OM 3 r 0 F4).m:=jt (Ζ:=3) (ai:=0) (by unfold xs;omega) A (by unfold xs;omega);refine Υ.bd ?_;simp only[hl,NC];refine ML ?_;intros;refine Y.cM (Ε:=obj nb C5 [ay lb,K d,K F,K ν,K T,.map (some mb),.map (some mp),.map (some mr)]::MV (OM 3 r 0 F4)::obj x.b Pg [ae x.bD x.Α.length x.id,ae x.M4 x.lq.length x.OT,K x.C7,.map (some x.mv),.map (some x.mt),.bool true,.bool F4]::τ (eU .i64) 1 x.M4 x.lq::L) (Sd.trans aj) ?_;refine Y.ca (my nb lb d F ν T mb mp mr { x with dec:=true,F4:=F4 } hg (OM 3 r 0 F4) hc none [] ah) ?_;rintro _ _⟨ad,cap,O,rfl,J,rfl⟩;simp only[hl,NC];refine ML ?_;intros;refine KX.a8 aC aj ⟨ad,cap,O,rfl,J,rfl⟩
abbrev Bp:=Yu [.ev 10,.ev 11]
abbrev Bo:=Yu [.ev 10]
abbrev Bn:=Yu [.ef 10,.ev 11]
def Uj{φ ψ:Prop}(k:ψ)(h:Hid ψ->φ:=by intro k;(repeat (first|refine ab ?_|intro B8|refine Β.dr 64 1 Bp ?_|refine Β.dr 64 7 Bo ?_|refine Β.dr 64 9 Bn ?_));(repeat revert B8);exact Hid.out k):φ:=h ⟨k⟩
theorem BG{L:Ι}(nb lb:Nat)(d F:Int)(n:G2)(S:Τ)(E0 B:Int)(c:OK)(a7:xs c.r)(a5:∀p∈n.Ψ,p.2.lq.length<=100) :
  Υ Λ 138 #[ay nb,K E0,bC (eO c),K B] (fh nb lb d F n (aT lb S::L)) (lQ nb lb d F (eu d E0 c.m B n.m S) L):=by
 refine Υ.bd ?_;simp only[fh,hl];refine Β.c8 (eN (b:=n.mb)) λhn=>?_;cases hg:List.lookup c.r n.Ψ with
 | none =>
  have hr:eu d E0 c.m B n.m S=([],n.m,S):=by
   unfold eu;rw[show ε n.m.Ψ c.m.r=none by rw[fX,show c.m.r=c.r from rfl,hg];rfl]
  refine Uj ?_;intros;refine δ.NV (Z.a8 rfl rfl) ac ?_;rw[hg];dsimp only[Option.map,Option.getD,Option.isSome];refine Uj ?_;intros;rw[hr];refine KX.a8 aC ?_ ⟨none,0,[],n,rfl,rfl,rfl,rfl⟩;refine(E.c8 be 3 B2).trans ((E.c7 gO).trans ?_);simp only[fh,hl];exact aj
 | some x =>
  have T:ε n.m.Ψ c.r=some x.m:=by rw[fX,hg];rfl
  have J:c.m.r=c.r:=rfl;have a6:x.lq.length<=100:=a5 _ (bR hg);refine Β.cM (E.at (Φ:=h2 I2 n.Ψ) (qY hn hg)) ?_;simp only[Oj,NC];refine Uj ?_;intros;refine δ.NV (Z.a8 rfl rfl) ac ?_;rw[hg];dsimp only[Option.map,Option.getD,Option.isSome,cz];have A:=λ (ο:Ι) (t:Bool)=>sB (L:=ο) nb lb d F n.ν n.T n.mb n.mp n.mr c.r a7 x a6 t;simp only[NC] at A;cases hd:x.dec with
  | true =>
   have hr:eu d E0 c.m B n.m S=([],{ n.m with Ψ:=ez n.m.Ψ c.r x.m },S):=by
    unfold eu;rw[J,T];dsimp only;rw[Ω (show x.m.dec=true from hd),iQ T (by show((Qn N8.m n.Ψ).map (·.1)).Nodup;rw[jO];exact hn)]
   refine Uj ?_;intros;rw[hr];refine KX.a8 aC ?_ ⟨none,0,[],({ n with Ψ:=ez n.Ψ c.r x }:G2),rfl,rfl,rF n c.r x,rfl⟩;refine(E.c8 be 3 B2).trans ((E.c7 gO).trans ?_);refine E.trans ?_ (E.a8 (E.a8 (kz hn hg x rfl)));simp only[Oj,NC,hl,hd];exact aj
  | false =>
   rw[hd] at A;cases U:c.yes with
   | false =>
    have hr:eu d E0 c.m B n.m S=(ck d x.lq [] (D4 3 c.r 0 false),{ n.m with Ψ:=ez n.m.Ψ c.r (x.m.Rw false) },S):=by
     unfold eu;rw[J,T];dsimp only;rw[Ο (by rw[show x.m.dec=false from hd];grind),Ω (show c.m.yes=false from U)];rfl
    refine Uj ?_;intros;rw[U,show(!false)=true from rfl];refine Uj ?_;intros;refine Y.cM (Ε:=obj nb C5 [ay lb,K d,K F,K n.ν,K n.T,.map (some n.mb),.map (some n.mp),.map (some n.mr)]::obj x.b Pg [ae x.bD x.Α.length x.id,ae x.M4 x.lq.length x.OT,K x.C7,.map (some x.mv),.map (some x.mt),.bool false,.bool x.F4]::τ (eU .i64) 1 x.M4 x.lq::(ew gT bM x.mv (Nh x.I8)::ew gT bM x.mt (Nh x.told)::τ aZ 5 x.bD x.Α::η ms x.Α::h2 I2 (I1 n.Ψ c.r)::ew gT cz n.mb n.Ψ::ew gT cC n.mp n.Γ::h2 H6 n.Γ::ew D6 bM n.mr (J7 n.wk)::aT lb S::L)) aj ?_;refine Y.ca (A _ false) ?_;rintro _ _⟨ad,cap,O,rfl,a3,rfl⟩;simp only[hl];refine Uj ?_;intros;rw[hr];refine KX.a8 aC ?_ ⟨ad,cap,O,({ n with Ψ:=ez n.Ψ c.r { x with dec:=true,F4:=false } }:G2),rfl,a3,rF n c.r { x with dec:=true,F4:=false },rfl⟩;refine E.trans ?_ (E.a8 (E.a8 (kz hn hg { x with dec:=true,F4:=false } rfl)));simp only[Oj,NC,hl];exact aj
   | true =>
    refine Uj ?_;intros;rw[U,show(!true)=false from rfl];refine Uj ?_;intros;refine Y.No (Ef.d9 (Η:=bM) true rfl rfl rfl rfl) ?_;rintro _ _ rfl;rw[Cj];refine Uj ?_;intros;refine δ.NV (Z.TM rfl) ac ?_;rw[oE];by_cases a4:(ND x.I8 E0).length<x.lq.length
    .have a2 : ((ND x.I8 E0).length:Int)<(x.lq.length:Int):=D
     have hr:eu d E0 c.m B n.m S=([],{ n.m with Ψ:=ez n.m.Ψ c.r { x.m with I8:=ND x.I8 E0 } },S):=by
      unfold eu;rw[J,T];dsimp only;rw[Ο (by rw[show x.m.dec=false from hd];grind),Ο (by rw[show c.m.yes=true from U];grind),Ω (show(ND x.m.I8 E0).length<x.m.lq.length from a4)];rfl
     refine Uj ?_;intros;rw[hr];refine KX.a8 aC ?_ ⟨none,0,[],({ n with Ψ:=ez n.Ψ c.r { x with I8:=ND x.I8 E0 } }:G2),rfl,rfl,rF n c.r { x with I8:=ND x.I8 E0 },rfl⟩;refine(E.c8 be 3 B2).trans ((E.c7 gO).trans ?_);refine E.trans ?_ (E.a8 (E.a8 (kz hn hg { x with I8:=ND x.I8 E0 } rfl)));simp only[Oj,NC,hl,hd];exact aj
    .have a2 : ¬((ND x.I8 E0).length:Int)<(x.lq.length:Int):=D
     have hr:eu d E0 c.m B n.m S=(ck d x.lq [] (D4 3 c.r 0 (dB (B<=x.C7))),{ n.m with Ψ:=ez n.m.Ψ c.r (({ x.m with I8:=ND x.I8 E0 }:K4).Rw (dB (B<=x.C7))) },S):=by
      unfold eu;rw[J,T];dsimp only;rw[Ο (by rw[show x.m.dec=false from hd];grind),Ο (by rw[show c.m.yes=true from U];grind),Ο (show ¬(ND x.m.I8 E0).length<x.m.lq.length from a4)];rfl
     refine Uj ?_;intros;refine δ.cM (Ε:=obj nb C5 [ay lb,K d,K F,K n.ν,K n.T,.map (some n.mb),.map (some n.mp),.map (some n.mr)]::obj x.b Pg [ae x.bD x.Α.length x.id,ae x.M4 x.lq.length x.OT,K x.C7,.map (some x.mv),.map (some x.mt),.bool false,.bool x.F4]::τ (eU .i64) 1 x.M4 x.lq::(ew gT bM x.mv (Nh (ND x.I8 E0))::ew gT bM x.mt (Nh x.told)::τ aZ 5 x.bD x.Α::η ms x.Α::h2 I2 (I1 n.Ψ c.r)::ew gT cz n.mb n.Ψ::ew gT cC n.mp n.Γ::h2 H6 n.Γ::ew D6 bM n.mr (J7 n.wk)::aT lb S::L)) aj ?_;refine δ.ca (A _ (dB (B<=x.C7))) ?_;rintro _ _⟨ad,cap,O,rfl,a3,rfl⟩;simp only[hl];refine Uj ?_;intros;rw[hr];refine KX.a8 aC ?_ ⟨ad,cap,O,({ n with Ψ:=ez n.Ψ c.r { x with I8:=ND x.I8 E0,dec:=true,F4:=dB (B<=x.C7) } }:G2),rfl,a3,rF n c.r { x with I8:=ND x.I8 E0,dec:=true,F4:=dB (B<=x.C7) },rfl⟩;refine E.trans ?_ (E.a8 (E.a8 (kz hn hg { x with I8:=ND x.I8 E0,dec:=true,F4:=dB (B<=x.C7) } rfl)));simp only[Oj,NC,hl,hd];exact aj
