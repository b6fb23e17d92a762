/- Lemmas. -/
import Derived.Test.YtlgpgjdggilkgaaGreatDoorErbd
set_option linter.all false
set_option maxHeartbeats 4000000
namespace Go.Proofs.YtlgpgjdggilkgaaGreatDoor
section
open Go.V
def gm(S:Χ):Nat:=(S.hx.map λs=>C2 s.cM).sum
structure Rj (x:J7):Prop where
 Η:x.Η.length<=32
 lg:∀l∈x.Η,kC l
 gl:x.B3.length<=100
 gv:∀g∈x.B3,id g
 un:id x.Ev
structure P6 (p:Lb):Prop where
 Η:p.Η.length<=32
 ow:∀o∈p.Η,Ma o
structure X0 (d Q:Int) (c:D4) (N:eu) (S:Χ):Prop where
 Ik:J6 d c (gm S) S
 hl:0<=N.hl/\N.hl<=gm S
 ω:0<=N.ω/\N.ω<=1000000
 d:0<=d/\d<Q/\Q<=12
 δ:∀p∈N.δ,id p.1/\Rj p.2
 Ζ:∀p∈N.Ζ,id p.1/\P6 p.2
def eu.Kd(N:eu)(F:Int)(f:J7->J7):eu:=match dV N.δ F with
 | some x=>{ N with δ:=fc N.δ F (f x) }
 | none=>N
def eu.Ky(N:eu)(F:Int)(f:Lb->Lb):eu:=match dV N.Ζ F with
 | some p=>{ N with Ζ:=fc N.Ζ F (f p) }
 | none=>N
abbrev Ja:=List xs×eu×Χ
def kD(nb lb:Nat)(d Q:Int)(Θ:Ja)(L:LH)(v:Value)(Y : LH):Prop :=
 ∃M cap T n',v=ae M T.length cap/\T.map (·.m)=Θ.1/\n'.m=Θ.2.1/\Y = Υ aV 3 hy M cap T::Ρ cV T::a1 nb lb d Q n' (aN lb Θ.2.2::L)
def iy(ms:Int)(m:IF)(N:eu)(S:Χ):Ja:=([],N.Kd m.F (λx=>{ x with told:=Ji x.told ms }),S)
def je(eZ:Int)(o:B0):B0:=if o.eZ=eZ/\o.state=1 then { o with state:=2 } else o
def Mb(m:IF)(N:eu)(S:Χ):Ja:=([],N.Ky m.F (λp=>{ p with Η:=p.Η.map (je m.eZ) }),S)
def K3(eZ:Int)(o:D5):D5:=if o.eZ=eZ/\o.state=1 then⟨o.bB,o.eZ,2,o.Ι,o.A7,o.C4⟩ else o
def Hz(eZ:Int)(o:D5):(K3 eZ o).m=je eZ o.m:=by
 unfold K3 je;by_cases h:o.eZ=eZ/\o.state=1
 .rw[μ h,μ (show o.m.eZ=eZ/\o.m.state=1 from h)];rfl
 .rw[Ω h,Ω (show ¬(o.m.eZ=eZ/\o.m.state=1) from h)]
def KU{α:Type}(f:α->α)(i:Nat)(l:List α):List α:=(l.take i).map f++l.drop i
section
variable {α:Type}[Inhabited α]{f:α->α}{i:Nat}{l:List α}
omit [Inhabited α] in
theorem uX:(KU f i l).length=l.length:=by grind [KU]
omit [Inhabited α] in
theorem CK:KU f 0 l=l:=by unfold KU;grind
omit [Inhabited α] in
theorem EJ(h:l.length<=i):KU f i l=l.map f:=by grind [KU,aG]
theorem zu(h:i<l.length):(KU f i l)[i]! = l[i]!:=by
 grind [KU]
theorem uW(h:i<l.length):(KU f i l).set i (f l[i]!)=KU f (i+1) l:=by
 unfold KU;rw[eA _ _ ay,av h,aL,ax,C5 h];congr 1;rw[show i - ((l.take i).map f).length=0 by grind,bS h];rfl
def sZ(h:i<l.length)(e:f l[i]! = l[i]!):KU f (i+1) l=KU f i l:=by
 have J:=uW (f:=f) h;rw[e,<-zu (f:=f) h,lw (by rw[uX];exact h)] at J;exact J.symm
end
def Gq{eZ:Int}{os:List D5}{L:LH}:A (Ρ G6 os::L) (Ρ G6 (os.map (K3 eZ))::L) :=
 A.l0 λy Z=>by
  obtain⟨x,K,rfl⟩:=IY Z;refine⟨x,K,?_⟩;unfold K3;split<;>rfl
attribute [local irreducible] Δ R GP Ο h2 GF GE O Ef A8 A CB GB V.Enters
abbrev yo:=Ux [.ev 10,.ev 11]
def PM{φ ψ:Prop}(k:ψ)(h:Hid ψ->φ:=by intro k;(repeat (first|refine aa ?_|intro sh|refine Δ.dr 27 1 yo ?_));(repeat revert sh);exact Hid.out k):φ:=h ⟨k⟩
def yF{L:LH}(nb lb:Nat)(d Q:Int)(n:E0)(S:Χ)(ms G:Int)(c:Ko) :
  Λ Ε 140 #[al nb,E ms,bh (dS c),E G] (a1 nb lb d Q n (aN lb S::L)) (kD nb lb d Q (iy ms c.m n.m S) L):=by
 refine Λ.bd ?_;simp only[a1,cw];refine Δ.c9 (dR (b:=n.mb)) λhn=>?_;cases hg:List.lookup c.F n.δ with
 | none =>
  have hr:iy ms c.m n.m S=([],n.m,S):=by
   unfold iy eu.Kd;rw[show dV n.m.δ c.m.F=none by rw[fo,show c.m.F=c.F from rfl,hg];rfl]
  refine PM ?_;intros;refine Ο.Js (O.a8 rfl rfl) ac ?_;rw[hg];dsimp only[Option.map,Option.getD,Option.isSome];refine PM ?_;intros;rw[hr];refine KX.a8 aw ?_ ⟨none,0,[],n,rfl,rfl,rfl,rfl⟩;refine(A.c8 aV 3 hy).trans ((A.a8 cV).trans ?_);simp only[a1,cw];exact ag
 | some x =>
  have hr:iy ms c.m n.m S=([],({ n with δ:=fc n.δ c.F { x with told:=Ji x.told ms } }:E0).m,S):=by
   unfold iy eu.Kd;rw[show dV n.m.δ c.m.F=some x.m by rw[fo,show c.m.F=c.F from rfl,hg];rfl];simp only[E0.m,jE];rfl
  refine Δ.υ (A.at (Μ:=ew F7 n.δ) (oX hn hg)) ?_;simp only[J8,Jn];refine PM ?_;intros;refine Ο.Js (O.a8 rfl rfl) ac ?_;rw[hg];dsimp only[Option.map,Option.getD,Option.isSome,cc];refine PM ?_;intros;refine R.I1 (Ef.f5 (Β:=bE) true rfl rfl rfl rfl) ?_;rintro _ _ rfl;rw[zl];refine PM ?_;intros;rw[hr];refine KX.a8 aw ?_ ⟨none,0,[],({ n with δ:=fc n.δ c.F { x with told:=Ji x.told ms } }:E0),rfl,rfl,rfl,rfl⟩;refine(A.c8 aV 3 hy).trans ((A.a8 cV).trans ?_);simp only[a1,cw];refine A.trans (cq:=τ cu cc n.mb n.δ::J8 { x with told:=Ji x.told ms } (ew F7 (GO n.δ c.F)::Υ aV 3 hy none 0 []::Ρ cV []::obj nb B2 [al lb,E d,E Q,E n.ω,E n.hl,.map (some n.mb),.map (some n.mp),.map (some n.mr)]::τ cu cg n.mp n.Ζ::ew F2 n.Ζ::τ B7 bE n.mr (G8 n.C1)::aN lb S::L)) ?_ ?_
  .simp only[J8,Jn];exact ag
  .refine(sD hn hg { x with told:=Ji x.told ms } rfl).trans ?_;exact ag
abbrev yn:=Ux [.ev 10,.ev 11]
abbrev ym:=Uz [.ev 17,.ev 18,.ev 19,.ev 20,.ev 21]
def PR{φ ψ:Prop}(k:ψ)(h:Hid ψ->φ:=by intro k;(repeat (first|refine aa ?_|intro sh|refine Δ.dr 61 1 yn ?_|refine Δ.dr 61 6 ym ?_));(repeat revert sh);exact Hid.out k):φ:=h ⟨k⟩
def By{L:LH}(nb lb:Nat)(d Q:Int)(n:E0)(S:Χ)(ms G:Int)(c:Ko)(hl:∀p∈n.Ζ,p.2.Η.length<=1000) :
  Λ Ε 142 #[al nb,E ms,bh (dS c),E G] (a1 nb lb d Q n (aN lb S::L)) (kD nb lb d Q (Mb c.m n.m S) L):=by
 refine Λ.bd ?_;simp only[a1,cw];refine Δ.c9 (dR (b:=n.mp)) λhn=>?_;cases hg:List.lookup c.F n.Ζ with
 | none =>
  have hr:Mb c.m n.m S=([],n.m,S):=by
   unfold Mb eu.Ky;rw[show dV n.m.Ζ c.m.F=none by rw[eQ,show c.m.F=c.F from rfl,hg];rfl]
  refine PR ?_;intros;refine Ο.Js (O.a8 rfl rfl) ac ?_;rw[hg];dsimp only[Option.map,Option.getD,Option.isSome];refine PR ?_;intros;rw[hr];refine KX.a8 aw ?_ ⟨none,0,[],n,rfl,rfl,rfl,rfl⟩;refine(A.c8 aV 3 hy).trans ((A.a8 cV).trans ?_);simp only[a1,cw];exact ag
 | some x =>
  have a7:x.Η.length<=1000:=hl _ (bT hg)
  have hr:Mb c.m n.m S=([],({ n with Ζ:=fc n.Ζ c.F { x with Η:=x.Η.map (K3 c.eZ) } }:E0).m,S):=by
   unfold Mb eu.Ky;rw[show dV n.m.Ζ c.m.F=some x.m by rw[eQ,show c.m.F=c.F from rfl,hg];rfl];simp only[E0.m,jE,H7.m,cO];rw[show(je c.m.eZ ∘ D5.m)=(D5.m ∘ K3 c.eZ) from funext λo=>(Hz c.eZ o).symm];rfl
  refine Δ.υ (A.at (Μ:=ew F2 n.Ζ) (lI hn hg)) ?_;simp only[Ku,J2];refine PR ?_;intros;refine Ο.Js (O.a8 rfl rfl) ac ?_;rw[hg];dsimp only[Option.map,Option.getD,Option.isSome,cg];refine PR ?_;intros;rename_i b6;refine Δ.loop (α:=Nat) (λi=>i<=x.Η.length) (λi=>[(6,al b6),(9,.pointer (some ⟨x.b,0,none⟩)),(27,E (x.Η.length:Int)),(28,E (i:Int))]) (λi=>Υ cY 8 Jv x.ad x.fe (KU (K3 c.eZ) i x.Η)::obj b6 Kb (dS c)::obj x.b JA [E x.state,E x.Φ,ae x.ad x.Η.length x.fe]::Ρ G6 x.Η::ew F2 (GO n.Ζ c.F)::obj nb B2 [al lb,E d,E Q,E n.ω,E n.hl,.map (some n.mb),.map (some n.mp),.map (some n.mr)]::τ cu cc n.mb n.δ::ew F7 n.δ::τ cu cg n.mp n.Ζ::τ B7 bE n.mr (G8 n.C1)::aN lb S::L) (λi=>x.Η.length - i) 0 B aA (by rw[CK];exact ag) ?_;intro i hi;by_cases a2:i<x.Η.length
  case neg =>
   rw[EJ B];refine PR ?_;intros;rw[hr];refine KX.a8 aw ?_ ⟨none,0,[],({ n with Ζ:=fc n.Ζ c.F { x with Η:=x.Η.map (K3 c.eZ) } }:E0),rfl,rfl,rfl,rfl⟩;refine(A.c8 aV 3 hy).trans ((A.a8 cV).trans ?_);simp only[a1,cw];refine(A.at (Μ:=Ρ G6 x.Η) (Gq (eZ:=c.eZ))).trans ?_;refine A.trans (cq:=τ cu cg n.mp n.Ζ::Ku { x with Η:=x.Η.map (K3 c.eZ) } (ew F2 (GO n.Ζ c.F)::Υ aV 3 hy none 0 []::Ρ cV []::obj nb B2 [al lb,E d,E Q,E n.ω,E n.hl,.map (some n.mb),.map (some n.mp),.map (some n.mr)]::τ cu cc n.mb n.δ::ew F7 n.δ::τ B7 bE n.mr (G8 n.C1)::aN lb S::L)) ?_ ?_
   .simp only[Ku,J2,ah];exact ag
   .refine(zr hn hg { x with Η:=x.Η.map (K3 c.eZ) } rfl).trans ?_;exact ag
  have r:(i:Int).toNat=i:=B;have a6:(KU (K3 c.eZ) i x.Η).length=x.Η.length:=uX;have I:=zu (f:=K3 c.eZ) a2;by_cases J:(KU (K3 c.eZ) i x.Η)[(i:Int).toNat]!.eZ=c.eZ
  .have a4:=J;rw[r,I] at a4;by_cases U:(KU (K3 c.eZ) i x.Η)[(i:Int).toNat]!.state=1
   .have a5:=U;rw[r,I] at a5;refine PR ?_;intros;refine R.I1 (Ef.d9 (Β:=cY) (e:=K3 c.eZ x.Η[i]!) rfl rfl (by rw[r,I];unfold K3;rw[μ ⟨a4,a5⟩];rfl) rfl B ac) ?_;rintro _ _ rfl;rw[r,uW a2];refine PR ?_;intros;refine⟨i+1,B,B,?_,by exact ag⟩;rw[bC i];exact aA
   .have a3:KU (K3 c.eZ) (i+1) x.Η=KU (K3 c.eZ) i x.Η:=sZ a2 (Ω λq=>U (by rw[r,I];exact q.2));refine PR ?_;intros;refine⟨i+1,B,B,?_,by rw[a3];exact ag⟩;rw[bC i];exact aA
  .have a3:KU (K3 c.eZ) (i+1) x.Η=KU (K3 c.eZ) i x.Η:=sZ a2 (Ω λq=>J (by rw[r,I];exact q.1));refine PR ?_;intros;refine⟨i+1,B,B,?_,by rw[a3];exact ag⟩;rw[bC i];exact aA
end
section
open Go.V
def E3(Κ F eZ:Int)(yes:Bool):IF:=⟨Κ,F,eZ,yes,[],[]⟩
def Kq(Κ F eZ:Int)(yes:Bool):Ko:=⟨Κ,F,eZ,yes,[],none,0,[],none,0⟩
def iH{Κ F eZ:Int}{yes:Bool}(J:id Κ)(U:id F)(h3:id eZ):Kp (E3 Κ F eZ yes) :=
 ⟨⟨J,U,h3⟩,aC _,λ_ h=>iW h aD,aC _,λ_ h=>iW h aD⟩
def Nn{Κ F eZ:Int}{yes:Bool}{L:LH}:A L (ID (Kq Κ F eZ yes)::L):=by
 refine(A.f5 (a0 .i64) 1 none).trans ?_;refine(A.a8 gy).trans ?_;refine(A.g8 (eg eD) (cA _ _ _ _)).trans ?_;refine(A.f5 aW 5 none).trans ?_;exact A.g8 (cA _ _ _ _) (JJ.and (eg eD) (cA _ _ _ _))
def J7.Ol(x:J7)(I4:Bool):J7:={ x with dec:=true,I4:=I4 }
def dy(d ms:Int)(m:IF)(G:Int)(N:eu)(S:Χ):Ja:=match dV N.δ m.F with
 | none=>([],N,S)
 | some x =>
  if x.dec=true then([],N,S)
  else if m.yes=false then(cJ d x.B3 [] (E3 3 m.F 0 false),{ N with δ:=fc N.δ m.F (x.Ol false) },S)
  else if(Ji x.G5 ms).length<x.B3.length then([],{ N with δ:=fc N.δ m.F { x with G5:=Ji x.G5 ms } },S)
  else(cJ d x.B3 [] (E3 3 m.F 0 (dB (G<=x.Ev))),{ N with δ:=fc N.δ m.F (({ x with G5:=Ji x.G5 ms }:J7).Ol (dB (G<=x.Ev))) },S)
theorem mR(l:List Int):(I3 l).length=l.length:=by unfold I3;grind
theorem iJ{κ α:Type}[DecidableEq κ]{l:List (κ×α)}{k:κ}{x:α}(h:dV l k=some x)(hn:(l.map (·.1)).Nodup):fc l k x=l:=by
 rw[nK h];refine(cK λp hp=>?_).trans (List.map_id _);by_cases q:p.1=k
 .rw[μ q];have U:List.lookup p.1 l=some p.2:=gP hn hp;rw[q] at U;have h3:some x=some p.2:=h.symm.trans U;grind
 grind
attribute [local irreducible] Δ R GP Ο h2 GF GE O Ef A8 A CB GB V.Enters
theorem qg{L:LH}(nb lb:Nat)(d Q ω hl:Int)(mb mp mr:Nat)(F:Int)(r:id F)(x:JR)(hg:x.B3.length<=100)(I4:Bool) :
  Λ Ε 145 #[al nb,E F,.pointer (some ⟨x.b,0,none⟩),.bool I4] (obj nb B2 (cw lb d Q ω hl mb mp mr)::obj x.b KL (Jn x)::ε (a0 .i64) 1 x.Jh x.B3::L) (λv Y=>∃M cap T,v=ae M T.length cap/\T.map (·.m)=cJ d x.B3 [] (E3 3 F 0 I4)/\Y = Υ aV 3 hy M cap T::Ρ cV T::obj nb B2 (cw lb d Q ω hl mb mp mr)::obj x.b KL (Jn { x with dec:=true,I4:=I4 })::ε (a0 .i64) 1 x.Jh x.B3::L):=by
 have hc:Kp (Kq 3 F 0 I4).m:=iH (Κ:=3) (eZ:=0) (by unfold id;omega) r (by unfold id;omega);refine Λ.bd ?_;simp only[cw,Jn];refine Ih ?_;intros;refine R.υ (Y:=obj nb B2 [al lb,E d,E Q,E ω,E hl,.map (some mb),.map (some mp),.map (some mr)]::ID (Kq 3 F 0 I4)::obj x.b KL [ae x.ad x.Η.length x.fe,ae x.Jh x.B3.length x.LG,E x.Ev,.map (some x.mv),.map (some x.mt),.bool true,.bool I4]::ε (a0 .i64) 1 x.Jh x.B3::L) (Nn.trans ag) ?_;refine R.ca (ld nb lb d Q ω hl mb mp mr { x with dec:=true,I4:=I4 } hg (Kq 3 F 0 I4) hc none [] ay) ?_;rintro _ _⟨M,cap,T,rfl,I,rfl⟩;simp only[cw,Jn];refine Ih ?_;intros;refine KX.a8 aw ag ⟨M,cap,T,rfl,I,rfl⟩
abbrev yl:=Ux [.ev 10,.ev 11]
abbrev yk:=Ux [.ev 10]
abbrev yj:=Ux [.ef 10,.ev 11]
def Qa{φ ψ:Prop}(k:ψ)(h:Hid ψ->φ:=by intro k;(repeat (first|refine aa ?_|intro sh|refine Δ.dr 64 1 yl ?_|refine Δ.dr 64 7 yk ?_|refine Δ.dr 64 9 yj ?_));(repeat revert sh);exact Hid.out k):φ:=h ⟨k⟩
theorem yE{L:LH}(nb lb:Nat)(d Q:Int)(n:E0)(S:Χ)(ms G:Int)(c:Ko)(a7:id c.F)(a5:∀p∈n.δ,p.2.B3.length<=100) :
  Λ Ε 138 #[al nb,E ms,bh (dS c),E G] (a1 nb lb d Q n (aN lb S::L)) (kD nb lb d Q (dy d ms c.m G n.m S) L):=by
 refine Λ.bd ?_;simp only[a1,cw];refine Δ.c9 (dR (b:=n.mb)) λhn=>?_;cases hg:List.lookup c.F n.δ with
 | none =>
  have hr:dy d ms c.m G n.m S=([],n.m,S):=by
   unfold dy;rw[show dV n.m.δ c.m.F=none by rw[fo,show c.m.F=c.F from rfl,hg];rfl]
  refine Qa ?_;intros;refine Ο.Js (O.a8 rfl rfl) ac ?_;rw[hg];dsimp only[Option.map,Option.getD,Option.isSome];refine Qa ?_;intros;rw[hr];refine KX.a8 aw ?_ ⟨none,0,[],n,rfl,rfl,rfl,rfl⟩;refine(A.c8 aV 3 hy).trans ((A.a8 cV).trans ?_);simp only[a1,cw];exact ag
 | some x =>
  have hl:dV n.m.δ c.F=some x.m:=by rw[fo,hg];rfl
  have I:c.m.F=c.F:=rfl;have a6:x.B3.length<=100:=a5 _ (bT hg);refine Δ.υ (A.at (Μ:=ew F7 n.δ) (oX hn hg)) ?_;simp only[J8,Jn];refine Qa ?_;intros;refine Ο.Js (O.a8 rfl rfl) ac ?_;rw[hg];dsimp only[Option.map,Option.getD,Option.isSome,cc];have r:=λ (ξ:LH) (t:Bool)=>qg (L:=ξ) nb lb d Q n.ω n.hl n.mb n.mp n.mr c.F a7 x a6 t;simp only[Jn] at r;cases hd:x.dec with
  | true =>
   have hr:dy d ms c.m G n.m S=([],{ n.m with δ:=fc n.m.δ c.F x.m },S):=by
    unfold dy;rw[I,hl];dsimp only;rw[μ (show x.m.dec=true from hd),iJ hl (by show((LI JR.m n.δ).map (·.1)).Nodup;rw[iU];exact hn)]
   refine Qa ?_;intros;rw[hr];refine KX.a8 aw ?_ ⟨none,0,[],({ n with δ:=fc n.δ c.F x }:E0),rfl,rfl,pF n c.F x,rfl⟩;refine(A.c8 aV 3 hy).trans ((A.a8 cV).trans ?_);refine A.trans ?_ (A.c7 (A.c7 (jy hn hg x rfl)));simp only[J8,Jn,cw,hd];exact ag
  | false =>
   rw[hd] at r;cases Z:c.yes with
   | false =>
    have hr:dy d ms c.m G n.m S=(cJ d x.B3 [] (E3 3 c.F 0 false),{ n.m with δ:=fc n.m.δ c.F (x.m.Ol false) },S):=by
     unfold dy;rw[I,hl];dsimp only;rw[Ω (by rw[show x.m.dec=false from hd];grind),μ (show c.m.yes=false from Z)];rfl
    refine Qa ?_;intros;rw[Z,show(!false)=true from rfl];refine Qa ?_;intros;refine R.υ (Y:=obj nb B2 [al lb,E d,E Q,E n.ω,E n.hl,.map (some n.mb),.map (some n.mp),.map (some n.mr)]::obj x.b KL [ae x.ad x.Η.length x.fe,ae x.Jh x.B3.length x.LG,E x.Ev,.map (some x.mv),.map (some x.mt),.bool false,.bool x.I4]::ε (a0 .i64) 1 x.Jh x.B3::(τ cu bE x.mv (I3 x.G5)::τ cu bE x.mt (I3 x.told)::ε aW 5 x.ad x.Η::Ρ gy x.Η::ew F7 (GO n.δ c.F)::τ cu cc n.mb n.δ::τ cu cg n.mp n.Ζ::ew F2 n.Ζ::τ B7 bE n.mr (G8 n.C1)::aN lb S::L)) ag ?_;refine R.ca (r _ false) ?_;rintro _ _⟨M,cap,T,rfl,a3,rfl⟩;simp only[cw];refine Qa ?_;intros;rw[hr];refine KX.a8 aw ?_ ⟨M,cap,T,({ n with δ:=fc n.δ c.F { x with dec:=true,I4:=false } }:E0),rfl,a3,pF n c.F { x with dec:=true,I4:=false },rfl⟩;refine A.trans ?_ (A.c7 (A.c7 (jy hn hg { x with dec:=true,I4:=false } rfl)));simp only[J8,Jn,cw];exact ag
   | true =>
    refine Qa ?_;intros;rw[Z,show(!true)=false from rfl];refine Qa ?_;intros;refine R.I1 (Ef.f5 (Β:=bE) true rfl rfl rfl rfl) ?_;rintro _ _ rfl;rw[zl];refine Qa ?_;intros;refine Ο.Js (O.OP rfl) ac ?_;rw[mR];by_cases a4:(Ji x.G5 ms).length<x.B3.length
    .have a2 : ((Ji x.G5 ms).length:Int)<(x.B3.length:Int):=B
     have hr:dy d ms c.m G n.m S=([],{ n.m with δ:=fc n.m.δ c.F { x.m with G5:=Ji x.G5 ms } },S):=by
      unfold dy;rw[I,hl];dsimp only;rw[Ω (by rw[show x.m.dec=false from hd];grind),Ω (by rw[show c.m.yes=true from Z];grind),μ (show(Ji x.m.G5 ms).length<x.m.B3.length from a4)];rfl
     refine Qa ?_;intros;rw[hr];refine KX.a8 aw ?_ ⟨none,0,[],({ n with δ:=fc n.δ c.F { x with G5:=Ji x.G5 ms } }:E0),rfl,rfl,pF n c.F { x with G5:=Ji x.G5 ms },rfl⟩;refine(A.c8 aV 3 hy).trans ((A.a8 cV).trans ?_);refine A.trans ?_ (A.c7 (A.c7 (jy hn hg { x with G5:=Ji x.G5 ms } rfl)));simp only[J8,Jn,cw,hd];exact ag
    .have a2 : ¬((Ji x.G5 ms).length:Int)<(x.B3.length:Int):=B
     have hr:dy d ms c.m G n.m S=(cJ d x.B3 [] (E3 3 c.F 0 (dB (G<=x.Ev))),{ n.m with δ:=fc n.m.δ c.F (({ x.m with G5:=Ji x.G5 ms }:J7).Ol (dB (G<=x.Ev))) },S):=by
      unfold dy;rw[I,hl];dsimp only;rw[Ω (by rw[show x.m.dec=false from hd];grind),Ω (by rw[show c.m.yes=true from Z];grind),Ω (show ¬(Ji x.m.G5 ms).length<x.m.B3.length from a4)];rfl
     refine Qa ?_;intros;refine Ο.υ (Y:=obj nb B2 [al lb,E d,E Q,E n.ω,E n.hl,.map (some n.mb),.map (some n.mp),.map (some n.mr)]::obj x.b KL [ae x.ad x.Η.length x.fe,ae x.Jh x.B3.length x.LG,E x.Ev,.map (some x.mv),.map (some x.mt),.bool false,.bool x.I4]::ε (a0 .i64) 1 x.Jh x.B3::(τ cu bE x.mv (I3 (Ji x.G5 ms))::τ cu bE x.mt (I3 x.told)::ε aW 5 x.ad x.Η::Ρ gy x.Η::ew F7 (GO n.δ c.F)::τ cu cc n.mb n.δ::τ cu cg n.mp n.Ζ::ew F2 n.Ζ::τ B7 bE n.mr (G8 n.C1)::aN lb S::L)) ag ?_;refine Ο.ca (r _ (dB (G<=x.Ev))) ?_;rintro _ _⟨M,cap,T,rfl,a3,rfl⟩;simp only[cw];refine Qa ?_;intros;rw[hr];refine KX.a8 aw ?_ ⟨M,cap,T,({ n with δ:=fc n.δ c.F { x with G5:=Ji x.G5 ms,dec:=true,I4:=dB (G<=x.Ev) } }:E0),rfl,a3,pF n c.F { x with G5:=Ji x.G5 ms,dec:=true,I4:=dB (G<=x.Ev) },rfl⟩;refine A.trans ?_ (A.c7 (A.c7 (jy hn hg { x with G5:=Ji x.G5 ms,dec:=true,I4:=dB (G<=x.Ev) } rfl)));simp only[J8,Jn,cw,hd];exact ag
