/- Lemmas. -/
import Derived.Test.YtlgpgjdggilkgaaGreatDoorErbg
set_option linter.all false
set_option maxHeartbeats 8000000
namespace Go.Proofs.YtlgpgjdggilkgaaGreatDoor
open Go.V
abbrev Sh:Nat:=157
instance X1:LQ Ε 157 B7:=RO
def oy{κ:Type}[DecidableEq κ](k:κ):∀l:List κ,((List.lookup k (l.map λg=>(g,true))).map bE).getD (.bool false)=.bool (dB (k∈l))
 | []=>by rw[bj (λh=>iW h aD)];rfl
 | g::l=>by
  by_cases h:k=g
  .subst h;rw[bI az];simp[bE]
  .have U:(k == g)=false:=by simpa using h
   have ih:=oy k l;rw[show dB (k∈g::l)=dB (k∈l) by rw[dd,dd];simp[h],<-ih,aF,cj];simp only[U]
def Gg{k:Int×Int}{l:List (Int×Int)}(h:k∈l):((@List.lookup _ _ instBEqOfDecidableEq k (G8 l)).map bE).getD (.bool false)=.bool true :=
 (oy k l).trans (congrArg Value.bool (by rw[dd];simp[h]))
def EB{k:Int×Int}{l:List (Int×Int)}(h:k∉l):((@List.lookup _ _ instBEqOfDecidableEq k (G8 l)).map bE).getD (.bool false)=.bool false :=
 (oy k l).trans (congrArg Value.bool (by rw[dd];simp[h]))
def FZ{l:List (Int×Int)}{k:Int×Int}(h:k∉l):fc (G8 l) k true=G8 (l++[k]):=by
 cases hg:dV (G8 l) k with
 | some b =>
  obtain⟨g,J,U⟩:=IY (bT hg);have:g=k:=congrArg Prod.fst U;exact iW (this▸J) h
 | none =>
  rw[qD hg];unfold G8;rw[aL];rfl
def ub(to:Int)(p:(Int×Int)×Int):A9:=⟨0,to,p.1.1,p.1.2,[(p.2,0,p.1.2)]⟩
def Kz(to:Int)(am:List (Int×Int))(fl:List Int):List A9:=(am.zip fl).map (ub to)
def nI{to:Int}{am:List (Int×Int)}{fl:List Int}(h:fl.length=am.length):(Kz to am fl).length=am.length:=by
 unfold Kz;rw[ah,List.length_zip,h,Nat.min_self]
def GJ{to:Int}{am:List (Int×Int)}{fl:List Int}(h:fl.length=am.length){i:Nat}(hi:i<am.length):(Kz to am fl)[i]'(by rw[nI h];exact hi)=ub to (am[i]!,fl[i]!):=by
 unfold Kz;rw[eM,List.getElem_zip,C5 hi,C5 B]
def qs{to:Int}:∀{am:List (Int×Int)} {fl:List Int},fl.length=am.length->C2 (Kz to am fl)=2*am.length
 | [],[],_=>rfl
 | a::am,f::fl,h=>by
  have ih:=qs (to:=to) (am:=am) (fl:=fl) (by simpa using h);show(1+1)+C2 (Kz to am fl)=_;rw[ih,aO];omega
 | a::am,[],h=>by simp at h
 | [],f::fl,h=>by simp at h
structure NX (to:Int) (am:List (Int×Int)) (fl:List Int) (i:Nat) (zs:List G0):Prop where
 le:i<=am.length
 len:zs.length=am.length
 T:zs.map G0.m=(Kz to am fl).take i++(Ij 0 to am).drop i
 cap:∀m∈zs,m.m.Ζ.length<=m.F6
def NX.zero{to:Int}{am:List (Int×Int)}{fl:List Int}:NX to am fl 0 (I8 0 to am):=by
 refine⟨aC _,?_,?_,λm hm=>?_⟩
 .unfold I8;rw[ah]
 .rw[jn];rfl
 .obtain⟨a,_,rfl⟩:=IY hm;exact au _
def NX.at{to:Int}{am:List (Int×Int)}{fl:List Int}{i:Nat}{zs:List G0}(h:NX to am fl i zs)(hf:fl.length=am.length)(hi:i<am.length):zs[i]!.m=⟨0,to,am[i]!.1,am[i]!.2,[]⟩:=by
 have hl:=nI (to:=to) hf;have e:=dY (f:=G0.m) (l:=zs) (i:=i) (by rw[h.len];exact hi);have r:(Ij 0 to am).length=am.length:=by unfold Ij;rw[ah]
 rw[<-e,h.T,C5 (by rw[aq,aK,ck];omega),dP (by rw[aK];omega),List.getElem_drop];unfold Ij;rw[eM];simp only[aK,hl,cX h.le];rw[C5 hi];simp
def NX.next{to:Int}{am:List (Int×Int)}{fl:List Int}{i:Nat}{zs:List G0}(h:NX to am fl i zs)(hf:fl.length=am.length)(hi:i<am.length){z:G0}(hz:z.m=ub to (am[i]!,fl[i]!))(hc:1<=z.F6):NX to am fl (i+1) (zs.set i z):=by
 have hl:=nI (to:=to) hf;have r:(Ij 0 to am).length=am.length:=by unfold Ij;rw[ah]
 refine⟨hi,by rw[bq];exact h.len,?_,λm hm=>?_⟩
 .rw[List.map_set,h.T,eA _ _ (by rw[aK];omega),aK,hl,cX h.le,Nat.sub_self,bS B,fh,av B,GJ hf hi,hz,ax];rfl
 .rcases List.mem_or_eq_of_mem_set hm with q|rfl
  .exact h.cap m q
  .rw[hz];exact hc
noncomputable def dO(d ms:Int)(m:IF)(G:Int)(N:eu)(S:Χ):Ja :=
 if(m.F,m.eZ)∈N.C1 then([⟨d,ms,E3 6 m.F m.eZ false⟩],N,S)
 else if m.Η.length=1/\m.Ι.length=m.Η[0]!.am.length then
  if IG S 5 G (Kz m.Η[0]!.to m.Η[0]!.am m.Ι)=true then([⟨d,ms,E3 6 m.F m.eZ false⟩],{ N with C1:=N.C1++[(m.F,m.eZ)] },Jo S 5 G (Kz m.Η[0]!.to m.Η[0]!.am m.Ι)) else([],N,S)
 else([],N,S)
attribute [local irreducible] Δ R GP Ο h2 GF GE O Ef A8 A CB GB V.Enters
abbrev ye:=Uv [.ev 6]
abbrev yd:=Uy [.ev 13,.ev 14,.ev 15]
abbrev yc:=Ux [.ef 10,.ev 11]
abbrev yb:=Uy [.ef 13,.ev 14,.ev 15,.ef 16]
abbrev vj:=Uu [.ev 4,.ef 5]
def Rk{φ ψ:Prop}(k:ψ)(h:Hid ψ->φ:=by intro k;(repeat (first|refine aa ?_|intro sh|refine Δ.dr 98 2 ye ?_|refine Δ.dr 98 3 yd ?_|refine Δ.dr 98 5 yc ?_|refine Δ.dr 98 9 yb ?_|refine Δ.dr 98 14 vj ?_));(repeat revert sh);exact Hid.out k):φ:=h ⟨k⟩
def rp{L:LH}(nb lb:Nat)(d Q:Int)(n:E0)(S:Χ)(ζ:D4)(hS:J6 d ζ (gm S) S)(ms G:Int)(c:Ko)(hc:Kp c.m)(hk:∀l∈c.m.Η,gm S+2*l.am.length<=2000) :
  Λ Ε 141 #[al nb,E ms,bh (dS c),E G] (ID c::a1 nb lb d Q n (aN lb S::L)) (kD nb lb d Q (dO d ms c.m G n.m S) L):=by
 have a6:id c.F:=hc.num.2.1;have a7:id c.eZ:=hc.num.2.2;refine Λ.bd ?_;simp only[a1,cw];refine Δ.υ wM ?_;have c0:c.m.Η.length=c.Η.length:=ah _;refine Rk ?_;intros;refine Ο.Js (O.j5 (k:=(c.F,c.eZ)) rfl rfl) ac ?_;by_cases hin:(c.F,c.eZ)∈n.C1
 .rw[Gg hin];have hr:dO d ms c.m G n.m S=([⟨d,ms,E3 6 c.F c.eZ false⟩],n.m,S):=μ hin;refine Rk ?_;intros;refine R.υ (Y:=obj nb B2 [al lb,E d,E Q,E n.ω,E n.hl,.map (some n.mb),.map (some n.mp),.map (some n.mr)]::ID (Kq 6 c.F c.eZ false)::(τ cu cc n.mb n.δ::ew F7 n.δ::τ cu cg n.mp n.Ζ::ew F2 n.Ζ::τ B7 bE n.mr (G8 n.C1)::aN lb S::L)) ((Nn (Κ:=6) (F:=c.F) (eZ:=c.eZ) (yes:=false)).trans ag) ?_;refine R.ca (eC nb lb d Q n.ω n.hl n.mb n.mp n.mr ms (Kq 6 c.F c.eZ false) (iH (Κ:=6) (by unfold id;omega) a6 a7)) ?_;rintro _ _⟨y,rfl,Z,rfl⟩;simp only[cw];refine Rk ?_;intros;rename_i I;rw[hr];refine KX.a8 aw ?_ ⟨some ⟨I,0,none⟩,1,[y],({ n with C1:=n.C1 }:E0),rfl,by rw[aF,aY,Z];rfl,rfl,rfl⟩;refine(A.at (Μ:=cV y) (A.d7 (f:=cV) ed)).trans ?_;refine(A.at (Μ:=obj I hy [E y.m.Ψ,E y.m.to,ae y.M (IQ y.m.ct).length y.cap]) (A.d9 (Β:=aV) (sz:=3) (D:=[y]) (n:=1) (by simp only[aR,cH,aJ];rfl) rfl (by intro x K;rfl) ac)).trans ?_;simp only[a1,cw];exact ag
 .rw[EB hin];by_cases J:c.Η.length=1
  .have a3:c.m.Η[0]! = c.Η[0]!.m:=dY B;by_cases U:(c.Ι.length:Int)=(c.Η[Int.toNat 0]!.m.am.length:Int)
   .have a2 : c.Ι.length=c.Η[0]!.m.am.length:=by
     rw[show Int.toNat 0=0 from rfl] at U;omega
    have r:c.Η[0]!∈c.Η:=by rw[C5 B];exact cG B
    have b3:kC c.Η[0]!.m:=hc.lg _ (Kg r);have b8:=b3.2.1;have c3:gm S+2*c.Η[0]!.m.am.length<=2000:=hk _ (Kg r);have c1:=hc.fl;have b1:=hc.fn
    have b0:dO d ms c.m G n.m S=if IG S 5 G (Kz c.Η[0]!.m.to c.Η[0]!.m.am c.Ι)=true then([⟨d,ms,E3 6 c.F c.eZ false⟩],{ n.m with C1:=n.C1++[(c.F,c.eZ)] },Jo S 5 G (Kz c.Η[0]!.m.to c.Η[0]!.m.am c.Ι)) else([],n.m,S):=by
     unfold dO;rw[Ω (show ¬(c.m.F,c.m.eZ)∈n.m.C1 from hin),μ (show c.m.Η.length=1/\c.m.Ι.length=c.m.Η[0]!.am.length from⟨B,by rw[a3];exact a2⟩),a3];rfl
    refine Rk ?_;intros;refine Ο.υ (A.at (Μ:=Ρ gy c.Η) (A.d8 (f:=gy) r)) ?_;rw[show Int.toNat 0=0 from rfl];refine Ο.ca (iL c.Η[0]!.M _ _ c.Η[0]!.m.am rfl B 0 c.Η[0]!.m.to) ?_;rintro _ _⟨cU,fH,rfl,rfl⟩;refine Rk ?_;intros;rename_i b6 b9;refine Δ.loop (α:=Nat×List G0) (λg=>NX c.Η[0]!.m.to c.Η[0]!.m.am c.Ι g.1 g.2) (λg=>[(0,al nb),(1,E ms),(3,E G),(6,al b6),(9,al b9),(10,ae cU g.2.length fH),(54,E (c.Η[0]!.m.am.length:Int)),(55,E (g.1:Int))]) (λg=>Υ bJ 5 JD cU fH g.2::Ρ G2 g.2::ε (a0 .i64) 1 c.A7 c.Ι::gy c.Η[0]!::obj b9 Sh [E c.F,E c.eZ]::obj b6 Kb (dS c)::obj nb B2 [al lb,E d,E Q,E n.ω,E n.hl,.map (some n.mb),.map (some n.mp),.map (some n.mr)]::τ cu cc n.mb n.δ::ew F7 n.δ::τ cu cg n.mp n.Ζ::ew F2 n.Ζ::τ B7 bE n.mr (G8 n.C1)::aN lb S::L) (λg=>c.Η[0]!.m.am.length - g.1) (0,I8 0 c.Η[0]!.m.to c.Η[0]!.m.am) NX.zero (by dsimp only;rw[show(I8 0 c.Η[0]!.m.to c.Η[0]!.m.am).length=c.Η[0]!.m.am.length by unfold I8;rw[ah]];exact aA) ((A.k6 0 c.Η[0]!.m.to c.Η[0]!.m.am).trans (by dsimp only;exact ag)) ?_;rintro⟨i,zs⟩ hI;dsimp only at hI ⊢;have c5:=hI.len;have c4:=hI.le;by_cases a9:i<c.Η[0]!.m.am.length
    case neg =>
     have c2:=nI (to:=c.Η[0]!.m.to) a2
     have a4:zs.map G0.m=(Kz c.Η[0]!.m.to c.Η[0]!.m.am c.Ι):=by
      rw[hI.T,aG B,bN (by unfold Ij;rw[ah];omega),aJ]
     have b4:C2 (Kz c.Η[0]!.m.to c.Η[0]!.m.am c.Ι)=2*c.Η[0]!.m.am.length:=qs a2
     have b7:MZ (Jz 5 G zs cU fH):=by
      have hm:∀m∈zs,∃a f,f∈c.Ι/\m.m=ub c.Η[0]!.m.to (a,f):=λm hm=>by
       have h3:m.m∈(Kz c.Η[0]!.m.to c.Η[0]!.m.am c.Ι):=by rw[<-a4];exact Kg hm
       unfold Kz at h3;obtain⟨⟨a,f⟩,h4,h5⟩:=IY h3;exact⟨a,f,(List.of_mem_zip h4).2,h5.symm⟩
      refine⟨.inr (.inr (.inr (.inl rfl))),show zs.length<=1000000 by omega,by show id (-1);unfold id;omega,λm h=>?_,hI.cap,λm h p hp=>?_⟩
      .obtain⟨a,f,_,e⟩:=hm m h;rw[e];exact(show(1:Nat)<=9223372036854775807 by decide)
      .obtain⟨a,f,hf,e⟩:=hm m h;rw[e] at hp;obtain rfl:=D6 hp;exact(b1 f hf).2
     refine Rk ?_;intros;refine R.υ (Y:=Υ bJ 5 JD cU fH zs::Ρ G2 zs::obj nb B2 [al lb,E d,E Q,E n.ω,E n.hl,.map (some n.mb),.map (some n.mp),.map (some n.mr)]::aN lb S::(obj b9 Sh [E c.F,E c.eZ]::obj b6 Kb (dS c)::τ cu cc n.mb n.δ::ew F7 n.δ::τ cu cg n.mp n.Ζ::ew F2 n.Ζ::τ B7 bE n.mr (G8 n.C1)::L)) ag ?_;refine R.ca (iI nb lb d Q n.ω n.hl n.mb n.mp n.mr ζ (gm S) S hS 5 G zs cU fH b7 (by rw[a4,b4];omega)) ?_;rw[a4];rintro _ _⟨A7,C4,rfl,rfl⟩;simp only[cw];cases Kx:IG S 5 G (Kz c.Η[0]!.m.to c.Η[0]!.m.am c.Ι) with
     | true =>
      have hr:=b0;rw[μ Kx] at hr;refine Rk ?_;intros;refine Ο.I1 (Ef.f5 (k:=(c.F,c.eZ)) (Β:=bE) true rfl rfl rfl rfl) ?_;rintro _ _ rfl;rw[FZ hin];refine Rk ?_;intros;refine R.υ (Y:=obj nb B2 [al lb,E d,E Q,E n.ω,E n.hl,.map (some n.mb),.map (some n.mp),.map (some n.mr)]::ID (Kq 6 c.F c.eZ false)::(τ cu cc n.mb n.δ::ew F7 n.δ::τ cu cg n.mp n.Ζ::ew F2 n.Ζ::τ B7 bE n.mr (G8 (n.C1++[(c.F,c.eZ)]))::aN lb (Jo S 5 G (Kz c.Η[0]!.m.to c.Η[0]!.m.am c.Ι))::L)) ((Nn (Κ:=6) (F:=c.F) (eZ:=c.eZ) (yes:=false)).trans ag) ?_;refine R.ca (eC nb lb d Q n.ω n.hl n.mb n.mp n.mr ms (Kq 6 c.F c.eZ false) (iH (Κ:=6) (by unfold id;omega) a6 a7)) ?_;rintro _ _⟨y,rfl,Z,rfl⟩;simp only[cw];refine Rk ?_;intros;rename_i I;rw[hr];refine KX.a8 aw ?_ ⟨some ⟨I,0,none⟩,1,[y],({ n with C1:=(n.C1++[(c.F,c.eZ)]) }:E0),rfl,by rw[aF,aY,Z];rfl,rfl,rfl⟩;refine(A.at (Μ:=cV y) (A.d7 (f:=cV) ed)).trans ?_;refine(A.at (Μ:=obj I hy [E y.m.Ψ,E y.m.to,ae y.M (IQ y.m.ct).length y.cap]) (A.d9 (Β:=aV) (sz:=3) (D:=[y]) (n:=1) (by simp only[aR,cH,aJ];rfl) rfl (by intro x K;rfl) ac)).trans ?_;simp only[a1,cw];exact ag
     | false =>
      have hr:=b0;rw[Ω (by rw[Kx];exact em)] at hr;have b5:=lA Kx;rw[b5];refine Rk ?_;intros;rw[hr];refine KX.a8 aw ?_ ⟨none,0,[],n,rfl,rfl,rfl,rfl⟩;refine(A.c8 aV 3 hy).trans ((A.a8 cV).trans ?_);simp only[a1,cw];exact ag
    have b2:(i:Int).toNat=i:=B;have a5:=hI.at a2 a9;refine Rk ?_;intros;rename_i bl;rw[b2,show zs[i]!.m.n=c.Η[0]!.m.am[i]!.2 by rw[a5]];refine Ο.I1 (Ef.d9 (Β:=bJ) (e:=(⟨⟨0,c.Η[0]!.m.to,c.Η[0]!.m.am[i]!.1,c.Η[0]!.m.am[i]!.2,[(c.Ι[i]!,0,c.Η[0]!.m.am[i]!.2)]⟩,some ⟨bl,0,none⟩,1⟩:G0)) rfl rfl (by rw[show bJ zs[i]! = [E zs[i]!.m.Ψ,E zs[i]!.m.to,E zs[i]!.m.aT,E zs[i]!.m.n,ae zs[i]!.pad zs[i]!.m.Ζ.length zs[i]!.F6] from rfl,a5];rfl) rfl B ac) ?_;rintro _ _ rfl;refine Rk ?_;intros;refine⟨(i+1,zs.set i (⟨⟨0,c.Η[0]!.m.to,c.Η[0]!.m.am[i]!.1,c.Η[0]!.m.am[i]!.2,[(c.Ι[i]!,0,c.Η[0]!.m.am[i]!.2)]⟩,some ⟨bl,0,none⟩,1⟩:G0)),hI.next a2 a9 rfl (au _),by dsimp only;omega,?_,?_⟩
    .dsimp only;rw[bq,bC i];exact aA
    .dsimp only;refine(A.at (Μ:=obj bl G1 [E c.Ι[i]!,E 0,E c.Η[0]!.m.am[i]!.2]) (A.d9 (Β:=aI) (sz:=3) (D:=[((c.Ι[i]!,0,c.Η[0]!.m.am[i]!.2):gq)]) (n:=1) aS rfl (by intro x K;rfl) ac)).trans ?_;refine A.JC.trans ?_;refine(A.at (Μ:=Ρ G2 zs) (A.refl _)).trans ?_;refine(A.at (Μ:=ε aI 3 (some ⟨bl,0,none⟩) [((c.Ι[i]!,0,c.Η[0]!.m.am[i]!.2):gq)]) (A.j6 (f:=G2) (l:=zs) (i:=i) (x:=(⟨⟨0,c.Η[0]!.m.to,c.Η[0]!.m.am[i]!.1,c.Η[0]!.m.am[i]!.2,[(c.Ι[i]!,0,c.Η[0]!.m.am[i]!.2)]⟩,some ⟨bl,0,none⟩,1⟩:G0)) iN)).trans ?_;exact ag
   .have hr:dO d ms c.m G n.m S=([],n.m,S):=by
     unfold dO
     rw[Ω (show ¬(c.m.F,c.m.eZ)∈n.m.C1 from hin),Ω (λq=>U (by
      have q2:=q.2;rw[a3] at q2;rw[show Int.toNat 0=0 from rfl];have q3:c.Ι.length=c.Η[0]!.m.am.length:=q2;omega))]
    refine Rk ?_;intros;rw[hr];refine KX.a8 aw ?_ ⟨none,0,[],n,rfl,rfl,rfl,rfl⟩;refine(A.c8 aV 3 hy).trans ((A.a8 cV).trans ?_);simp only[a1,cw];exact ag
  .have hr:dO d ms c.m G n.m S=([],n.m,S):=by
    unfold dO;rw[Ω (show ¬(c.m.F,c.m.eZ)∈n.m.C1 from hin),Ω (λq=>J B)]
   refine Rk ?_;intros;rw[hr];refine KX.a8 aw ?_ ⟨none,0,[],n,rfl,rfl,rfl,rfl⟩;refine(A.c8 aV 3 hy).trans ((A.a8 cV).trans ?_);simp only[a1,cw];exact ag
end Go.Proofs.YtlgpgjdggilkgaaGreatDoor
namespace Go.V
section
variable {P:Program}{env:Env}{L:LH}{ty:TypeId}{κ α:Type}[DecidableEq κ]
theorem Ef.Lm{t:TypeId}{x y z' : Operand}{b Ν Τ:Nat}{z v r:Value}{kv:κ->Value}{Β:α->Value}{m:List (κ×α)}{D8:LH}{k:κ}(e:α)[ht:K0 P t Ν Τ z][hk:LQ P Ν kv][hp:KQ L b κ α kv Β m D8](K:χ env x=some (.map (some b)))(Z:χ env y=some r)(hz:χ env z' = some v)[a3:Nb kv r k](hv:v=Β e)
  : Ef P L env (.insert t x y z') ty (λ_ Y=>Y = τ kv Β b (fc m k e)::D8):=by
 rintro θ Α a w ⟨a2,a4,I,pos,af,g⟩ next F8 ha s rfl rfl hn
 exact Ef.f5 (ty:=I) e K Z hz hv θ Α a w ⟨a2,.mapUpdate t x y z',I,pos,af,g⟩ next F8 ha s rfl rfl hn
end
end Go.V
namespace Go.Proofs.YtlgpgjdggilkgaaGreatDoor
open Go.V
def jg(f:Nat):Value:=.func (.func f) #[] #[]
def NY:List (Int×Nat):=[(1,137),(2,138),(3,139),(4,140),(5,141),(6,142)]
noncomputable def bk(d ms:Int)(m:IF)(G:Int)(N:eu)(S:Χ):Ja :=
 if m.Κ=1 then fQ d m G N S
 else if m.Κ=2 then dy d ms m G N S
 else if m.Κ=3 then dX d m G N S
 else if m.Κ=4 then iy ms m N S
 else if m.Κ=5 then dO d ms m G N S
 else if m.Κ=6 then Mb m N S
 else([],N,S)
def E9(N:eu):Nat:=(N.Ζ.map λp=>cy p.2.Η).sum
def Kh(ls:List G7):Nat:=(ls.map λl=>l.am.length).sum
def rW{α:Type}{f:α->Nat}:∀{l:List α} {x:α},x∈l->f x<=(l.map f).sum
 | y::l,x,h=>by
  rw[aF,bZ];rcases Jr h with rfl|h
  .omega
  .have:=rW (f:=f) h;omega
def pC{N:eu}{p:Int×Lb}(h:p∈N.Ζ):cy p.2.Η<=E9 N:=rW (f:=λp:Int×Lb=>cy p.2.Η) h
def sJ{ls:List G7}{l:G7}(h:l∈ls):l.am.length<=Kh ls:=rW (f:=λl:G7=>l.am.length) h
def sg(d:Int):∀(k:Int) (ls:List G7),cy (II d k ls)<=Kh ls
 | _,[]=>au _
 | k,l::ls=>by
  have ih:=sg d (k+1) ls;have e:Kh (l::ls)=l.am.length+Kh ls:=by unfold Kh;rw[aF,bZ]
  rw[e];unfold II;split
  .have e2:∀(a:B0) (q:List B0),cy (a::q)=eU a+cy q:=λa q=>by unfold cy;rw[aF,bZ]
   rw[e2,show eU ⟨l,k,0,[]⟩=l.am.length from μ rfl];omega
  .omega
structure IU (ζ:D4) (d:Int) (N:eu) (S:Χ):Prop where
 Ik:J6 d ζ (gm S) S
 hl:0<=N.hl/\N.hl<=gm S
 nd:(N.Ζ.map (·.1)).Nodup
 No:∀p∈N.δ,p.2.B3.length<=100
 pts:∀p∈N.Ζ,P6 p.2
def IU.TY{ζ:D4}{d:Int}{n:E0}{S:Χ}(h:IU ζ d n.m S):∀p∈n.δ,p.2.B3.length<=100:=λp hp=>h.No (p.1,p.2.m) (List.mem_map.2 ⟨p,hp,rfl⟩)
theorem IU.Rl{ζ:D4}{d:Int}{n:E0}{S:Χ}(h:IU ζ d n.m S):∀p∈n.Ζ,p.2.Η.length<=1000:=λp hp=>by
 have:=(h.pts (p.1,p.2.m) (List.mem_map.2 ⟨p,hp,rfl⟩)).Η
 grind [H7.m]
attribute [local irreducible] Δ R GP Ο h2 GF GE O Ef A8 A CB GB V.Enters
theorem pY{L:LH}(nb lb:Nat)(d Q:Int)(n:E0)(S:Χ)(ζ:D4)(x:JQ)(I:Kp x.m.ct)(hN:IU ζ d n.m S)(hk:gm S+E9 n.m+2*Kh x.m.ct.Η<=2000)(G:Int) :
  Λ Ε 87 #[al nb,bh (aV x),E G] (cV x::a1 nb lb d Q n (aN lb S::L)) (kD nb lb d Q (bk d x.m.Ψ x.m.ct G n.m S) L):=by
 refine Λ.bd ?_;refine Ih ?_;intros;refine R.ef (Ef.c8 cu jg (.inl rfl)) ac ?_;rintro _ _⟨bm,rfl,rfl⟩;refine R.I1 (Ef.Lm (Β:=jg) 137 rfl rfl rfl rfl) ?_;rintro _ _ rfl;refine R.I1 (Ef.Lm (Β:=jg) 138 rfl rfl rfl rfl) ?_;rintro _ _ rfl;refine R.I1 (Ef.Lm (Β:=jg) 139 rfl rfl rfl rfl) ?_;rintro _ _ rfl;refine R.I1 (Ef.Lm (Β:=jg) 140 rfl rfl rfl rfl) ?_;rintro _ _ rfl;refine R.I1 (Ef.Lm (Β:=jg) 141 rfl rfl rfl rfl) ?_;rintro _ _ rfl;refine R.I1 (Ef.Lm (Β:=jg) 142 rfl rfl rfl rfl) ?_;rintro _ _ rfl;rw[show(fc (fc (fc (fc (fc (fc ([]:List (Int×Nat)) 1 137) 2 138) 3 139) 4 140) 5 141) 6 142)=NY from rfl];refine Ih ?_;intros;refine R.ca (yV x.M (IQ x.m.ct).length x.cap x.m.ct I rfl) ?_;rintro _ _⟨c,rfl,hc,rfl⟩;have r:Kp c.m:=by rw[hc];exact I
 rw[<-hc] at hk;refine Ih ?_;intros;by_cases J:c.Κ=1
 .have hr:bk d x.m.Ψ x.m.ct G n.m S=fQ d x.m.ct G n.m S:=by
   unfold bk;rw[μ (show x.m.ct.Κ=1 by rw[<-hc];exact J)]
  refine R.ev (O.a8 rfl rfl) ac ?_;rw[show List.lookup c.Κ NY=some 137 by rw[J];rfl];dsimp only[Option.map,Option.getD,Option.isSome,jg];refine Ih ?_;intros;refine R.υ (Y:=ID c::a1 nb lb d Q n (aN lb S::L)) ag ?_;refine R.ef (Ef.c7 (first:=[]) (cap:=[]) (vs:=[al nb,E x.m.Ψ,bh (dS c),E G]) (si nb lb d Q n S ζ hN.Ik ⟨hN.hl.1,by have h:=hN.hl.2;have e:n.m.hl=n.hl:=rfl;omega⟩ x.m.Ψ G c r (by have:=sg d 0 c.m.Η;omega)) rfl rfl) ac ?_;intro v Y hv;refine Ih ?_;intros;rw[hr,<-hc];refine KX.a8 aw (A.refl _) ?_;exact hv
 by_cases U:c.Κ=2
 .have hr:bk d x.m.Ψ x.m.ct G n.m S=dy d x.m.Ψ x.m.ct G n.m S:=by
   unfold bk;rw[Ω (show ¬x.m.ct.Κ=1 by rw[<-hc];exact J),μ (show x.m.ct.Κ=2 by rw[<-hc];exact U)]
  refine R.ev (O.a8 rfl rfl) ac ?_;rw[show List.lookup c.Κ NY=some 138 by rw[U];rfl];dsimp only[Option.map,Option.getD,Option.isSome,jg];refine Ih ?_;intros;refine R.υ (Y:=ID c::a1 nb lb d Q n (aN lb S::L)) ag ?_;refine R.ef (Ef.c7 (first:=[]) (cap:=[]) (vs:=[al nb,E x.m.Ψ,bh (dS c),E G]) (Λ.pre (L:=ID c::a1 nb lb d Q n (aN lb S::L)) (yE nb lb d Q n S x.m.Ψ G c r.num.2.1 hN.TY) A.drop) rfl rfl) ac ?_;intro v Y hv;refine Ih ?_;intros;rw[hr,<-hc];refine KX.a8 aw (A.refl _) ?_;exact hv
 by_cases h3:c.Κ=3
 .have hr:bk d x.m.Ψ x.m.ct G n.m S=dX d x.m.ct G n.m S:=by
   unfold bk;rw[Ω (show ¬x.m.ct.Κ=1 by rw[<-hc];exact J),Ω (show ¬x.m.ct.Κ=2 by rw[<-hc];exact U),μ (show x.m.ct.Κ=3 by rw[<-hc];exact h3)]
  refine R.ev (O.a8 rfl rfl) ac ?_;rw[show List.lookup c.Κ NY=some 139 by rw[h3];rfl];dsimp only[Option.map,Option.getD,Option.isSome,jg];refine Ih ?_;intros;refine R.υ (Y:=ID c::a1 nb lb d Q n (aN lb S::L)) ag ?_;refine R.ef (Ef.c7 (first:=[]) (cap:=[]) (vs:=[al nb,E x.m.Ψ,bh (dS c),E G]) (Λ.pre (L:=ID c::a1 nb lb d Q n (aN lb S::L)) (tQ nb lb d Q n S ζ hN.Ik x.m.Ψ G c r.num.2.1 hN.pts (λp hp=>by have:=pC hp;omega)) A.drop) rfl rfl) ac ?_;intro v Y hv;refine Ih ?_;intros;rw[hr,<-hc];refine KX.a8 aw (A.refl _) ?_;exact hv
 by_cases h4:c.Κ=4
 .have hr:bk d x.m.Ψ x.m.ct G n.m S=iy x.m.Ψ x.m.ct n.m S:=by
   unfold bk;rw[Ω (show ¬x.m.ct.Κ=1 by rw[<-hc];exact J),Ω (show ¬x.m.ct.Κ=2 by rw[<-hc];exact U),Ω (show ¬x.m.ct.Κ=3 by rw[<-hc];exact h3),μ (show x.m.ct.Κ=4 by rw[<-hc];exact h4)]
  refine R.ev (O.a8 rfl rfl) ac ?_;rw[show List.lookup c.Κ NY=some 140 by rw[h4];rfl];dsimp only[Option.map,Option.getD,Option.isSome,jg];refine Ih ?_;intros;refine R.υ (Y:=ID c::a1 nb lb d Q n (aN lb S::L)) ag ?_;refine R.ef (Ef.c7 (first:=[]) (cap:=[]) (vs:=[al nb,E x.m.Ψ,bh (dS c),E G]) (Λ.pre (L:=ID c::a1 nb lb d Q n (aN lb S::L)) (yF nb lb d Q n S x.m.Ψ G c) A.drop) rfl rfl) ac ?_;intro v Y hv;refine Ih ?_;intros;rw[hr,<-hc];refine KX.a8 aw (A.refl _) ?_;exact hv
 by_cases h5:c.Κ=5
 .have hr:bk d x.m.Ψ x.m.ct G n.m S=dO d x.m.Ψ x.m.ct G n.m S:=by
   unfold bk;rw[Ω (show ¬x.m.ct.Κ=1 by rw[<-hc];exact J),Ω (show ¬x.m.ct.Κ=2 by rw[<-hc];exact U),Ω (show ¬x.m.ct.Κ=3 by rw[<-hc];exact h3),Ω (show ¬x.m.ct.Κ=4 by rw[<-hc];exact h4),μ (show x.m.ct.Κ=5 by rw[<-hc];exact h5)]
  refine R.ev (O.a8 rfl rfl) ac ?_;rw[show List.lookup c.Κ NY=some 141 by rw[h5];rfl];dsimp only[Option.map,Option.getD,Option.isSome,jg];refine Ih ?_;intros;refine R.υ (Y:=ID c::a1 nb lb d Q n (aN lb S::L)) ag ?_;refine R.ef (Ef.c7 (first:=[]) (cap:=[]) (vs:=[al nb,E x.m.Ψ,bh (dS c),E G]) (rp nb lb d Q n S ζ hN.Ik x.m.Ψ G c r (λl hl=>by have:=sJ hl;omega)) rfl rfl) ac ?_;intro v Y hv;refine Ih ?_;intros;rw[hr,<-hc];refine KX.a8 aw (A.refl _) ?_;exact hv
 by_cases h6:c.Κ=6
 .have hr:bk d x.m.Ψ x.m.ct G n.m S=Mb x.m.ct n.m S:=by
   unfold bk;rw[Ω (show ¬x.m.ct.Κ=1 by rw[<-hc];exact J),Ω (show ¬x.m.ct.Κ=2 by rw[<-hc];exact U),Ω (show ¬x.m.ct.Κ=3 by rw[<-hc];exact h3),Ω (show ¬x.m.ct.Κ=4 by rw[<-hc];exact h4),Ω (show ¬x.m.ct.Κ=5 by rw[<-hc];exact h5),μ (show x.m.ct.Κ=6 by rw[<-hc];exact h6)]
  refine R.ev (O.a8 rfl rfl) ac ?_;rw[show List.lookup c.Κ NY=some 142 by rw[h6];rfl];dsimp only[Option.map,Option.getD,Option.isSome,jg];refine Ih ?_;intros;refine R.υ (Y:=ID c::a1 nb lb d Q n (aN lb S::L)) ag ?_;refine R.ef (Ef.c7 (first:=[]) (cap:=[]) (vs:=[al nb,E x.m.Ψ,bh (dS c),E G]) (Λ.pre (L:=ID c::a1 nb lb d Q n (aN lb S::L)) (By nb lb d Q n S x.m.Ψ G c hN.Rl) A.drop) rfl rfl) ac ?_;intro v Y hv;refine Ih ?_;intros;rw[hr,<-hc];refine KX.a8 aw (A.refl _) ?_;exact hv
 have hr:bk d x.m.Ψ x.m.ct G n.m S=([],n.m,S):=by
  unfold bk;rw[Ω (show ¬x.m.ct.Κ=1 by rw[<-hc];exact J),Ω (show ¬x.m.ct.Κ=2 by rw[<-hc];exact U),Ω (show ¬x.m.ct.Κ=3 by rw[<-hc];exact h3),Ω (show ¬x.m.ct.Κ=4 by rw[<-hc];exact h4),Ω (show ¬x.m.ct.Κ=5 by rw[<-hc];exact h5),Ω (show ¬x.m.ct.Κ=6 by rw[<-hc];exact h6)]
 refine R.ev (O.a8 rfl rfl) ac ?_
 rw[show List.lookup c.Κ NY=none by
  grind [NY]]
 dsimp only[Option.map,Option.getD,Option.isSome];refine Ih ?_;intros;rw[hr];refine KX.a8 aw ?_ ⟨none,0,[],n,rfl,rfl,rfl,rfl⟩;refine(A.c8 aV 3 hy).trans ((A.a8 cV).trans ?_);simp only[a1,cw];exact ag
