/- Lemmas. -/
import Derived.Test.YtlgpgjdggilkgaaGreatDoorErax
set_option linter.all false
set_option maxHeartbeats 4000000
namespace Go.Proofs.YtlgpgjdggilkgaaGreatDoor
section
open Go.V
attribute [local irreducible] Δ R GP Ο h2 GF GE O Ef A8 A CB GB V.Enters
structure M3 (S:Χ) (x:Jl):Prop where
 ζ:x.ζ.m=S.ζ
 Ob:x.ζ.cq
 ο:∀a i,(eO x.ο (a,i)).C0=S.ο a i
 full:∀p∈x.ο,p.2.C0≠[]
 gr:∀i,(dV x.gr i).getD 0=S.gr i
 hx:x.hx.map E8.m=S.hx
 Ι:x.Ι.map (·.m)=S.Ι
 imp:Ln (eO x.imp) (du S.Ι)
 ret:Ln (eO x.ret) (iS S.Ι)
 vw:x.sv=S.vs/\x.fv=S.vf
def gT(b:Nat)(S:Χ)(x:Jl):LH:=dp (M3 S x)::B1 b S.kQ x []
def aN(b:Nat)(S:Χ):HP:=hex λx=>bW (gT b S x)
def gj{b:Nat}{S:Χ}{L:LH}(x:Jl)(h:M3 S x):A (B1 b S.kQ x L) (aN b S::L) :=
 A.f9 (f:=gT b S) x (A.pure h (A.refl _))
def Gv{S:Χ}{x:Jl}(h:M3 S x):Ni x=S.now:=by
 unfold Χ.now Ni;rw[<-h.hx,List.getLast?_map,Option.map_map];rfl
abbrev Bg:=Uy [.ev 13,.ev 14,.ef 15]
def MY{φ ψ:Prop}(k:ψ)(h:Hid ψ->φ:=by intro k;(repeat (first|refine aa ?_|intro sh|refine Δ.dr 62 6 Bg ?_));(repeat revert sh);exact Hid.out k):φ:=h ⟨k⟩
def Cx{L:LH}(b:Nat)(S:Χ)(k:Nat)(hS:MG k S)(hc:S.ζ.Ok)(h0:0<=S.now)(x:Jl)(hF:M3 S x)(s:E8)(hs:MZ s)(b5:s.cM.length<=s.fH)(hk:k+C2 s.m.cM<=2000)(hT:∀mx,OT mx) :
  Λ Ε 76 #[al b,bh (da s)] (B1 b S.kQ x (stM s::IK s::L)) (λv Y =>
   ((E2 S s.m).1≠0/\v=.tuple #[.pointer none,E (E2 S s.m).1]/\Y = B1 b S.kQ x (stM s::IK s::L)) \/
   ((E2 S s.m).1=0/\∃bc s' z,v=.tuple #[al bc,E 0]/\(s'.m=s.m.at (cp S)/\Py x z S.Ι (E2 S s.m).2)/\Y = F1 b bc s' z (B1 b S.kQ x (stM s'::IK s'::stM s::IK s::L)))):=by
 obtain⟨a4,c5⟩:=hS.g.kQ;have f0:=hS.g.hx;have e9:=hS.g.Ι;have e6:x.hx.length=S.hx.length:=by rw[<-hF.hx,ah]
 have f1:x.Ι.length=S.Ι.length:=by rw[<-hF.Ι,ah]
 have hB:=hF.Ob;have e1:=hs.len;have b2:=hF.ζ;have e0:=hB.B5;have b0:Ni x=S.now:=Gv hF;have c0:cD x=fm S.ζ:=by funext i;unfold cD fm;rw[<-b2];rfl
 refine Λ.bd ?_;simp only[B1,bV];by_cases J:65536<=S.hx.length
 .have e:E2 S s.m=(4,Jm S):=by unfold E2;rw[μ J]
  rw[e];refine MY ?_;intros;exact KX.a8 aw ag (.inl ⟨by dsimp only;omega,rfl,rfl⟩)
 refine MY ?_;intros;refine R.υ (A.at (Μ:=IK s) (A.refl _)) ?_;refine R.υ (A.at (Μ:=JU x.ζ) (A.refl _)) ?_;refine R.cr (Az (b:=b) (d:=S.kQ) (x:=x) s hs.kd hs.Ζ (b2▸hc) hB B e1 b5 hs.Ip (b0▸h0)) ?_;rw[b2,b0];by_cases U:ge S.ζ S.now s.m
 case neg =>
  have e:E2 S s.m=(1,Jm S):=by unfold E2;rw[Ω J,μ U]
  rw[e,bj U];refine MY ?_;intros;exact KX.a8 aw ag (.inl ⟨by dsimp only;omega,rfl,rfl⟩)
 have e:E2 S s.m=cL S.kQ S.Ι (fm S.ζ) (s.m.at (cp S)) (Jm S) s.m.cM:=by unfold E2;rw[Ω J,Ω (λh=>h U)]
 rw[e,bI U];have hA:=Ra.1 U;have d2:=nv U;have c1:s.m.cM=s.cM.map G0.m:=rfl;have b7:s.cM.length<=64:=by have:=U.2.2.2.1.2;rwa [c1,ah] at this
 have e4:∀m∈s.cM,m.m.Ζ.length<=1000000:=λm hm=>by
  rcases (d2 m.m (by rw[c1];exact Kg hm)).g.Ζ with q|q
  .rw[q];decide
  .have:=q.1.2;omega
 refine MY ?_;intros;refine R.υ (A.at (Μ:=stM s) (A.c7 (A.at (Μ:=IK s) (A.refl _)))) ?_;refine R.ca (wO s b7 e4) ?_;rintro _ _⟨s',rfl,c4,rfl⟩;have b4:s'.cM.map G0.m=s.m.cM:=congrArg C8.cM c4;have e5:s'.cM.length=s.cM.length:=by have:=congrArg List.length b4;rwa [c1,ah,ah] at this
 have c6:s'.Κ=s.Κ:=congrArg C8.Κ c4;simp only[da];refine MY ?_;intros;refine R.ef (Ef.c8 B7 ey.v (.inl rfl)) ac ?_;rintro _ _⟨cs,rfl,rfl⟩;refine MY ?_;intros;refine R.ef (Ef.c8 cu KH (.inl rfl)) ac ?_;rintro _ _⟨ct,rfl,rfl⟩;refine MY ?_;intros;refine R.ef (Ef.c8 cu ey.v (.inl rfl)) ac ?_;rintro _ _⟨ci,rfl,rfl⟩;refine MY ?_;intros;refine R.ef (Ef.c8 cu ey.v (.inl rfl)) ac ?_;rintro _ _⟨cr,rfl,rfl⟩;refine MY ?_;intros;rename_i bc;have d5:S.kQ*4294967296+(x.hx.length:Int)=cp S:=by unfold cp;rw[e6]
 rw[d5]
 have b1:(s'.at (cp S)).m=s.m.at (cp S):=by
  show C8.at s'.m (cp S)=_;rw[c4]
 have a5:S.Ι++(Jm S).Ι=S.Ι:=aJ _;have a6:Py x ⟨cs,ct,ci,cr,[],[],[],[],[],none,0,[],none,0⟩ S.Ι (Jm S):=⟨λa i=>hF.ο a i,λi=>hF.gr i,rfl,rfl,by rw[a5];exact hF.imp,by rw[a5];exact hF.ret⟩
 refine Δ.loop (α:=Nat×Ny×Wk) (λg=>g.1<=s'.cM.length/\Py x g.2.1 S.Ι g.2.2/\Oj S.kQ S.Ι (k+C2 (s.m.cM.take g.1)) g.2.2/\g.2.2.Ι.length=g.1/\cL S.kQ S.Ι (fm S.ζ) (s.m.at (cp S)) (Jm S) s.m.cM=cL S.kQ S.Ι (fm S.ζ) (s.m.at (cp S)) g.2.2 (s.m.cM.drop g.1))
  (λg=>[(0,al b),(4,.pointer none),(5,E 0),(6,al bc),(48,ae s'.cU s'.cM.length s'.fH),(49,E (s'.cM.length:Int)),(50,E (g.1:Int))])
  (λg=>F1 b bc (s'.at (cp S)) g.2.1 (B1 b S.kQ x (stM s'::IK s'::stM s::IK s::L))) (λg=>s'.cM.length - g.1) (0,⟨cs,ct,ci,cr,[],[],[],[],[],none,0,[],none,0⟩,Jm S) ⟨aC _,a6,Ac hS,rfl,rfl⟩ aA ?_ ?_
 .simp only[F1,B1,cC,bV,E8.at,aX];refine(A.c8 ee 11 fS).trans ?_;refine(A.c8 (a0 .i64) 1 kR).trans ?_;refine(A.a8 (λp:(Int×Int)×ey=>E7 p.2)).trans ?_;refine(A.a8 (λp:Int×ey=>E7 p.2)).trans ?_;refine(A.a8 (λp:Int×ey=>E7 p.2)).trans ?_;refine(A.a8 Kw).trans ?_;exact ag
 rintro⟨i,z,W⟩ ⟨hi,hW,hO,d0,r⟩;dsimp only at hi hW hO d0 r ⊢;by_cases b9:i<s'.cM.length
 case neg =>
  have b6:s.m.cM.drop i=[]:=bN (by rw[<-b4,ah];omega);rw[b6] at r;rw[r];simp only[F1,B1,cC,bV];refine MY ?_;intros;exact KX.a8 aw (A.refl _) (.inr ⟨rfl,bc,s'.at (cp S),z,rfl,⟨b1,hW⟩,rfl⟩)
 have d6:(i:Int).toNat=i:=B;have b3:s'.cM[i]!.m=s.m.cM[i]!:=by rw[<-b4];exact(qu G0.m b9).symm
 have b8:i<s.m.cM.length:=by rw[<-b4,ah];exact b9
 have d1:i<s.cM.length:=B;have d4:s'.cM[i]!.m=s.cM[i]!.m:=b3.trans (qu G0.m d1);have b6:s.m.cM.drop i=s'.cM[i]!.m::s.m.cM.drop (i+1):=by rw[b3];exact jh b8
 have a7:s'.cM[i]!.m∈s.m.cM:=by rw[b3];exact bA b8
 have a2:=hA.2.2.2.2.1 s'.cM[i]!.m a7;have a3:=d2 s'.cM[i]!.m a7;have hK:C2 (s.m.cM.take (i+1))=C2 (s.m.cM.take i)+(s'.cM[i]!.m.Ζ.length+1):=by rw[ES b8,b3]
 have e8:=Hs s.m.cM (i+1);have d3:∀p∈s'.cM[i]!.m.Ζ,p.1<=9223372036854775807:=by rw[d4];exact hs.bd _ (bA d1)
 have e3:¬(s'.at (cp S)).Κ=5->s'.cM[i]!.m.Ζ=[]:=λh=>Gx (n:=S.ζ.B5.length) (k:=s.m.Κ) hs.kd (λq=>h (c6.trans q)) a2;rw[b6] at r;have c3:cL S.kQ S.Ι (fm S.ζ) (s.m.at (cp S)) W (s'.cM[i]!.m::s.m.cM.drop (i+1))=if(ce S.kQ S.Ι (fm S.ζ) (s.m.at (cp S)) W s'.cM[i]!.m).1=0 then cL S.kQ S.Ι (fm S.ζ) (s.m.at (cp S)) (ce S.kQ S.Ι (fm S.ζ) (s.m.at (cp S)) W s'.cM[i]!.m).2 (s.m.cM.drop (i+1)) else((ce S.kQ S.Ι (fm S.ζ) (s.m.at (cp S)) W s'.cM[i]!.m).1,W):=rfl;rw[c3] at r;have e2:=zT (fL:=fm S.ζ) (s:=s.m.at (cp S)) (m:=s'.cM[i]!.m) a4 hO a3 B;have a9:=nM (fL:=fm S.ζ) (s:=s.m.at (cp S)) (m:=s'.cM[i]!.m) a4 hO.g a3.g B;have I:=BC (L:=stM s'::IK s'::stM s::IK s::L) b bc S.kQ x (s'.at (cp S)) z s'.cM[i]! W S.Ι (k+C2 (s.m.cM.take i)) hF.Ι hW hO (show NR s'.Κ s'.cM[i]!.m by rw[c6];exact a3) B ⟨a2.1.1,by have h4:=a2.1.2;rw[<-b2] at h4;simpa [Iq.m] using h4⟩ d3 (show KJ s'.Κ by rw[c6];exact hs.kd) e3 ⟨a4,c5⟩ B B hT e0;rw[b1,c0] at I;have c2:(ce S.kQ S.Ι (fm S.ζ) (s.m.at (cp S)) W s'.cM[i]!.m).1=0->(ce S.kQ S.Ι (fm S.ζ) (s.m.at (cp S)) W s'.cM[i]!.m).2.Ι.length=W.Ι.length+1:=λh=>by rw[(a9 h).2,aq,bu]
 clear a9;generalize ce S.kQ S.Ι (fm S.ζ) (s.m.at (cp S)) W s'.cM[i]!.m=Θ at *;refine Δ.υ (Y:=ε aI 3 s'.cM[i]!.pad s'.cM[i]!.m.Ζ::F1 b bc (s'.at (cp S)) z (B1 b S.kQ x (stM s'::IK s'::stM s::IK s::L))) (by simp only[F1,B1];exact(A.at (Μ:=IK s') (Gb b9)).trans ag) ?_;simp only[F1,B1,cC,bV,stM];refine MY ?_;intros;rw[d6];refine R.υ A.drop ?_;refine R.ca (I) ?_;rintro _ _⟨z',rfl,e7,rfl⟩;by_cases hr:Θ.1=0
 .rw[μ hr] at r;simp only[F1,B1,cC,bV];refine MY ?_;intros;refine⟨(i+1,z',Θ.2),⟨by dsimp only;omega,e7 hr,by dsimp only;rw[hK,<-df,<-df];exact e2 hr,by dsimp only;rw[c2 hr,d0],r⟩,by dsimp only;omega,?_,A.refl _⟩;dsimp only;rw[bC i];exact aA
 .rw[Ω hr] at r;rw[r];simp only[F1,B1,cC,bV];refine MY ?_;intros;exact KX.en (.inl ⟨hr,rfl,rfl⟩)
end
section
open Go.V
theorem BT{d:Int}{fl:List D9}{fL:Int->Bool}{s:C8}{N:Nat}{W:Wk}{m:A9}(J:W.JG.length<=W.Ι.length)(U:W.Ι.length<=N)(h3:∀f∈W.Ι,f.made.length<=N):(ce d fl fL s W m).2.JG.length<=(ce d fl fL s W m).2.Ι.length/\(ce d fl fL s W m).2.Ι.length<=W.Ι.length+1/\∀f∈(ce d fl fL s W m).2.Ι,f.made.length<=N:=by
 have hn:∀f∈W.Ι++[fV d fl.length fL s W m],f.made.length<=N:=λf hf=>by
  rcases It hf with h|h
  .exact h3 f h
  .rw[D6 h];show(jW s W m).length<=N;grind [jW]
 have hl:(W.Ι++[fV d fl.length fL s W m]).length=W.Ι.length+1:=by rw[aq,bu]
 grind [ce]
def qc{d:Int}{fl:List D9}{fL:Int->Bool}{s:C8}{N:Nat}:∀(T:List A9) (W:Wk),W.JG.length<=W.Ι.length->W.Ι.length+T.length<=N->(∀f∈W.Ι,f.made.length<=N)->∀f∈(cL d fl fL s W T).2.Ι,f.made.length<=N
 | [],_,_,_,h=>h
 | m::T,W,J,U,h3=>by
  have e:cL d fl fL s W (m::T)=if(ce d fl fL s W m).1=0 then cL d fl fL s (ce d fl fL s W m).2 T else((ce d fl fL s W m).1,W):=rfl;rw[aO] at U;obtain⟨g1,g2,g3⟩:=BT (d:=d) (fl:=fl) (fL:=fL) (s:=s) (N:=N) (m:=m) J B h3;rw[e];split
  .exact qc T _ g1 B g3
  .exact h3
theorem pI{S:Χ}{s:C8}(h:(E2 S s).1=0):E2 S s=cL S.kQ S.Ι (fm S.ζ) (s.at (cp S)) (Jm S) s.cM:=by
 grind [E2]
def M0.made{d:Int}{c:D4}{S:Χ}(h:M0 d c S):∀f∈S.Ι,f.made.length<=64:=by
 induction h with
 | zero=>intro f hf;cases hf
 | view _ _ _ ih=>exact ih
 | @post S s _ h0 ih =>
  have e1:bP S s=eX S s:=μ h0;have hp:=iv h0;have hl:=hp.2.2.2.1.2;rw[e1];intro f hf;rcases It (show f∈S.Ι++(E2 S s).2.Ι from hf) with q|q
  .exact ih f q
  .rw[pI h0] at q;exact qc (N:=64) s.cM (Jm S) (au _) (by show 0+_<=64;omega) (λf hf=>by cases hf) f q
def qa{κ α:Type}[DecidableEq κ]{q:κ×α}:∀{n m:List (κ×α)},q∈gD m n->q∈m\/q∈n
 | [],_,h=>.inl h
 | p::n,m,h=>by
  rcases qa (n:=n) (m:=fc m p.1 p.2) h with J|J
  .rcases Jr (qC q J) with U|U
   .exact .inr (by rw[U];exact az)
   .exact .inl U
  .exact .inr (aB _ J)
def ux{m z x:List (Int×ey)}(h:∀k,dV m k=(dV z k).or (dV x k)):eO m=I7 z x:=by
 funext k;unfold eO I7;rw[h k];cases dV z k<;>rfl
def qE{k:Nat}{S:Χ}{s:C8}(hS:MG k S)(hk:k+C2 s.cM<=2000)(h:(E2 S s).1=0):S.hx.length<65536/\ge S.ζ S.now s/\(E2 S s).2.Ι.length=s.cM.length:=by
 have U:=iv h;have e:=pI h;have h3:=h;rw[e] at h3;have h4:=(oT hS.g.kQ.1 (Ac hS).g (λm hm=>(nv U m hm).g) hk h3).2;rw[e];refine⟨Classical.byContradiction λq=>?_,U,?_⟩
 .unfold E2 at h;rw[μ B] at h;exact iW (show(4:Int)=0 from h) ac
 .rw[h4];show 0+s.cM.length=_;omega
attribute [local irreducible] Δ R GP Ο h2 GF GE O Ef A8 A CB GB V.Enters
def qh(Ξ s:Nat)(m n:List (Int×ey)) :
  Λ Ε 78 #[.map (some Ξ),.map (some s)] [τ cu ey.v Ξ m,τ cu ey.v s n] (λ_ Y=>∃m',((∀k,dV m' k=(dV n k).or (dV m k))/\∀q∈m',q∈m\/q∈n)/\Y = [τ cu ey.v Ξ m']):=by
 refine Λ.bd ?_;refine Δ.υ A.swap ?_;refine Δ.c9 (dR (b:=s) (kv:=cu) (Β:=ey.v) (m:=n)) ?_;intro hn;refine Ih ?_;intros;refine R.ef (Ef.j6 rfl) ac ?_;rintro _ _⟨Θ,rfl,rfl⟩;refine Ih ?_;intros;refine Δ.loop (α:=List (Int×ey)) (λz=>z.length<=n.length) (λz=>[(0,.map (some Ξ)),(7,al Θ)]) (λz=>[ft cu ey.v s n Θ z,τ cu ey.v Ξ (gD m z)]) (λz=>n.length - z.length) [] (aC _) aA (A.refl _) ?_;intro z hz;refine Ih ?_;intros;refine R.ef (Ef.j8 rfl) ac ?_;rintro _ _ (⟨rfl,rfl,hp⟩|⟨p,rfl,rfl,r,I,hl⟩)
 .refine Ih ?_;intros;refine KX.c8 aw A.drop ⟨gD m z,⟨λk=>?_,λq hq=>?_⟩,rfl⟩
  .rw[mI k z m ((hp.map _).nodup_iff.2 hn),qz hp hn]
  .rcases qa hq with J|J
   .exact .inl J
   .exact .inr (hp.mem_iff.1 J)
 refine Ih ?_;intros;refine R.ev (O.j6 (done:=z) rfl rfl) ac ?_;refine Ih ?_;intros;refine R.I1 (Ef.f5 (Β:=ey.v) (e:=p.2) rfl rfl rfl rfl) ?_;rintro _ _ rfl;refine Ih ?_;intros;refine⟨z++[p],by simp;omega,by simp;omega,aA,?_⟩;rw[show gD m (z++[p])=fc (gD m z) p.1 p.2 by simp[gD]];exact ag
abbrev Bf:=Uu [.ev 4,.ef 5]
abbrev Be:=Uv [.ef 6]
abbrev xM:=Uw [.ef 8]
abbrev xL:=Uw [.ef 8]
abbrev xK:=Uw [.ef 8]
abbrev xJ:=Uw [.ev 8,.ef 9,.ev 10,.ev 11,.ef 12]
abbrev xI:=Uw [.ev 8,.ef 9,.ef 10,.ev 11,.ev 12,.ef 13]
def Nm{φ ψ:Prop}(k:ψ)(h:Hid ψ->φ:=by intro k;(repeat (first|refine aa ?_|intro sh|refine Δ.dr 100 8 Bf ?_|refine Δ.dr 100 9 Be ?_|refine Δ.dr 100 10 xM ?_|refine Δ.dr 100 11 xL ?_|refine Δ.dr 100 12 xK ?_|refine Δ.dr 100 13 xJ ?_|refine Δ.dr 100 14 xI ?_));(repeat revert sh);exact Hid.out k):φ:=h ⟨k⟩
def jQ{L:LH}(b:Nat)(S:Χ)(k:Nat)(hS:MG k S)(hc:S.ζ.Ok)(h0:0<=S.now)(s:E8)(hs:MZ s)(a3:s.cM.length<=s.fH)(hk:k+C2 s.m.cM<=2000)(hT:∀mx,OT mx) :
  Λ Ε 30 #[al b,bh (da s)] (aN b S::stM s::IK s::L) (C9 (.tuple #[E (P3 S s.m),E (E2 S s.m).1]) (aN b (bP S s.m)::stM s::IK s::L)):=by
 obtain⟨b8,b9⟩:=hS.g.kQ;have c5:=hS.g.hx;have c1:=hS.g.Ι;refine Λ.bd ?_;refine Δ.c8 (f:=gT b S) ?_;intro x;simp only[gT,B1,aj,ak];refine Δ.d7 ?_;intro hF;have d0:x.hx.length=S.hx.length:=by rw[<-hF.hx];simp
 have c6:x.Ι.length=S.Ι.length:=by rw[<-hF.Ι];simp
 refine Nm ?_;intros;refine R.υ A.drop ?_;refine R.ca (Cx b S k hS hc h0 x hF s hs a3 hk hT) ?_;rintro _ _ (⟨he,rfl,rfl⟩|⟨he,bc,s',z,rfl,⟨b4,hW⟩,rfl⟩)
 .have e1:bP S s.m=S:=Ω he;have e2:P3 S s.m=0:=Ω he;rw[e1,e2];refine Nm ?_;intros;exact KX.a8 aw (gj x hF) ⟨rfl,rfl⟩
 have e1:bP S s.m=eX S s.m:=μ he;have e2:P3 S s.m=cp S:=μ he;obtain⟨o1,o2,o4⟩:=qE hS hk he;have c2:s.m.cM.length<=64:=o2.2.2.2.1.2
 have d1:z.Ι.length<=64:=by
  have:=congrArg List.length hW.Ι
  rw[ah] at this;omega
 have c0:0<z.Ι.length:=by
  have J:=congrArg List.length hW.Ι;rw[ah] at J;have U:=o2.2.2.2.1.1;omega
 have a7:s'.F=cp S:=congrArg C8.F b4;rw[e1,e2,he];simp only[F1,B1,cC,bV];refine Nm ?_;intros;refine R.g9 (dR (b:=z.cs) (kv:=B7) (Β:=ey.v) (m:=z.ο)) ?_;intro b2;refine R.ef (Ef.j6 rfl) ac ?_;rintro _ _⟨Θ,rfl,rfl⟩;refine Nm ?_;intros
 refine Δ.loop (α:=List ((Int×Int)×ey)) (λg=>g.length<=z.ο.length) (λ_=>[(0,al b),(6,al bc),(23,al Θ)])
  (λg=>ft B7 ey.v z.cs z.ο Θ g::τ B7 ey.v x.T (gR x.ο g)::obj bc Q0 (cC b s' z)::τ cu KH z.ct z.gr::τ cu ey.v z.ci z.imp::τ cu ey.v z.cr z.ret::Υ ee 11 fS z.A7 z.C4 z.Ι::Ρ (λp:(Int×Int)×ey=>E7 p.2) z.ο::Ρ Kw z.Ι::Ρ (λp:Int×ey=>E7 p.2) z.imp::Ρ (λp:Int×ey=>E7 p.2) z.ret::obj b MR (bV S.kQ x)::τ cu KH x.mt x.gr::JF da 7 gJ x.B8 x.IT x.hx x.sv::JF ee 11 fS x.A7 x.C4 x.Ι x.fv::τ cu ey.v x.mi x.imp::τ cu ey.v x.mr x.ret::JU x.ζ::Ρ (λp:(Int×Int)×ey=>E7 p.2) x.ο::Ρ eJ x.hx::Ρ Kw x.Ι::Ρ (λp:Int×ey=>E7 p.2) x.imp::Ρ (λp:Int×ey=>E7 p.2) x.ret::stM s'::IK s'::stM s::IK s::L)
  (λg=>z.ο.length - g.length) [] (aC _) aA ?_ ?_
 .simp only[gR,List.foldl_nil];exact ag
 intro g hg;simp only[cC,bV];refine Nm ?_;intros;refine R.ef (Ef.j8 rfl) ac ?_;rintro _ _ (⟨rfl,rfl,hp⟩|⟨p,rfl,rfl,c3,c4,hl⟩)
 case inr =>
  have b3:gR x.ο (g++[p])=Nj (gR x.ο g) p:=by simp[gR]
  refine Nm ?_;intros;refine R.ev (O.j6 (done:=g) rfl rfl) ac ?_;simp only[B7,ey.v,aF,aY];by_cases h0:p.2.C0.length=0
  .have a5:Nj (gR x.ο g) p=GO (gR x.ο g) p.1:=μ h0;refine Nm ?_;intros;refine Ο.I1 (Ef.m5 rfl rfl) ?_;rintro _ _ rfl;refine Nm ?_;intros;refine⟨g++[p],by simp;omega,by simp;omega,aA,?_⟩;rw[b3,a5];exact ag
  .have a5:Nj (gR x.ο g) p=fc (gR x.ο g) p.1 p.2:=Ω h0;refine Nm ?_;intros;refine Ο.I1 (Ef.f5 (Β:=ey.v) (e:=p.2) rfl rfl rfl rfl) ?_;rintro _ _ rfl;refine Nm ?_;intros;refine⟨g++[p],by simp;omega,by simp;omega,aA,?_⟩;rw[b3,a5];exact ag
 refine Nm ?_;intros;(first|refine Ο.ef (Ef.call (Cg x.mt z.ct x.gr z.gr) rfl eY) ac ?_);rintro _ _⟨_,⟨m',b6,rfl⟩,hL⟩;simp only[aj,ak] at hL;subst hL;refine Nm ?_;intros;(first|refine Ο.ef (Ef.call (qh x.mi z.ci x.imp z.imp) rfl eY) ac ?_);rintro _ _⟨_,⟨a9,⟨b5,a4⟩,rfl⟩,hL⟩;simp only[aj,ak] at hL;subst hL;refine Nm ?_;intros;(first|refine Ο.ef (Ef.call (qh x.mr z.cr x.ret z.ret) rfl eY) ac ?_);rintro _ _⟨_,⟨b0,⟨b7,a6⟩,rfl⟩,hL⟩;simp only[aj,ak] at hL;subst hL;refine Nm ?_;intros;refine Ο.ef (Ef.l5 (Β:=ee) (ys:=z.Ι) rfl rfl rfl rfl rfl c0 (λe _=>mA e) B B) ac ?_;rintro _ _⟨a2,r,rfl,rfl⟩;refine Nm ?_;intros;refine Ο.ef (Ef.k9 (Β:=da) (e:=s') rfl rfl rfl rfl rfl aS (lr _) B B) ac ?_;rintro _ _⟨b1,I,rfl,rfl⟩;refine Nm ?_;intros;rw[a7];refine KX.a8 aw ?_ ⟨rfl,rfl⟩;refine A.trans ?_ (gj (S:=eX S s.m) { x with ο:=gR x.ο g,gr:=m',imp:=a9,ret:=b0,hx:=x.hx++[s'],B8:=b1,IT:=I,Ι:=x.Ι++z.Ι,A7:=a2,C4:=r } ⟨hF.ζ,hF.Ob,?_,?_,?_,?_,?_,?_,?_,hF.vw⟩)
 .simp only[B1,bV,eX];refine(A.at (Μ:=IK s') (A.refl _)).trans ?_;refine(A.at (Μ:=stM s') (A.refl _)).trans ?_;refine(A.g8 (Ap s') (eg iN)).trans ?_;refine(A.at (Μ:=Ρ eJ x.hx) (A.refl _)).trans ?_;refine((A.c7 (A.d7 (f:=eJ) (x:=s') px)).trans (A.c9 px)).trans ?_;refine(A.at (Μ:=Ρ Kw z.Ι) (A.refl _)).trans ?_;refine(A.at (Μ:=Ρ Kw x.Ι) (A.refl _)).trans ?_;refine(A.c9 ud).trans ?_;refine(A.at (Μ:=Ρ (λp:(Int×Int)×ey=>E7 p.2) z.ο) (A.refl _)).trans ?_;refine(A.at (Μ:=Ρ (λp:(Int×Int)×ey=>E7 p.2) x.ο) (A.refl _)).trans ?_;refine(A.c9 (f:=λp:(Int×Int)×ey=>E7 p.2) (λp=>ra p.2)).trans ?_;refine(A.g9 (l':=gR x.ο g) (λq hq=>?_)).trans ?_
  .rcases nu hq with J|J
   .exact dQ _ J
   .exact dx _ (hp.mem_iff.1 J.1)
  refine(A.at (Μ:=Ρ (λp:Int×ey=>E7 p.2) z.imp) (A.refl _)).trans ?_;refine(A.at (Μ:=Ρ (λp:Int×ey=>E7 p.2) x.imp) (A.refl _)).trans ?_;refine(A.c9 (f:=λp:Int×ey=>E7 p.2) (λp=>ra p.2)).trans ?_;refine(A.g9 (l':=a9) (λq hq=>List.mem_append.2 (a4 q hq))).trans ?_;refine(A.at (Μ:=Ρ (λp:Int×ey=>E7 p.2) z.ret) (A.refl _)).trans ?_;refine(A.at (Μ:=Ρ (λp:Int×ey=>E7 p.2) x.ret) (A.refl _)).trans ?_;refine(A.c9 (f:=λp:Int×ey=>E7 p.2) (λp=>ra p.2)).trans ?_;refine(A.g9 (l':=b0) (λq hq=>List.mem_append.2 (a6 q hq))).trans ?_;exact ag
 .intro a i;rw[oq _ _ _ ((hp.map _).nodup_iff.2 b2),qz hp b2];exact hW.ο a i
 .intro q hq;rcases nu hq with J|J
  .exact hF.full q J
  .exact J.2
 .intro i;dsimp only;rw[b6,Gr];exact hW.gr i
 .show(x.hx++[s']).map E8.m=S.hx++[s.m.at (cp S)];rw[aL,hF.hx,<-b4];rfl
 .show(x.Ι++z.Ι).map (·.m)=S.Ι++(E2 S s.m).2.Ι;rw[aL,hF.Ι];exact congrArg _ hW.Ι
 .show Ln (eO a9) (du (S.Ι++(E2 S s.m).2.Ι));rw[ux b5];exact hW.imp
 .show Ln (eO b0) (iS (S.Ι++(E2 S s.m).2.Ι));rw[ux b7];exact hW.ret
end
section
open Go.V
def LZ(f:Int->Int):List Int->Int
 | []=>0
 | a::l=>f a+LZ f l
def nj{f g:Int->Int}:∀{Μ:List Int},(∀a∈Μ,f a=g a)->LZ f Μ=LZ g Μ
 | [],_=>rfl
 | a::Μ,h=>by
  have J:=h a az;have U:=nj (Μ:=Μ) (λx K=>h x (aB _ K));show f a+LZ f Μ=g a+LZ g Μ;rw[J,U]
theorem ql{f:Int->Int}{u Ξ:Int}:∀{Μ:List Int},Μ.Nodup->LZ (λa=>f a+(if a=u then Ξ else 0)) Μ=LZ f Μ+(if u∈Μ then Ξ else 0)
 | [],_=>rfl
 | a::Μ,h=>by
  rw[el] at h;have ih:=ql (f:=f) (u:=u) (Ξ:=Ξ) (Μ:=Μ) h.2;grind [LZ]
def nV(ο:Int->Int->LL)(Io:List D9):Prop:=∀a i,ο a i≠[]->∃f∈Io,f.to=a/\f.aT=i
structure Nl (ο:Int->Int->LL) (gr:Int->Int) (fl:List D9):Prop where
 sum:∀i (Μ:List Int),Μ.Nodup->0∉Μ->LZ (λa=>dU (ο a i)) Μ<=gr i
 Se:∀i,ο 0 i=[]
 src:nV ο fl
 top:∀i,gr i<=1099511627776
theorem Nl.nn{ο:Int->Int->LL}{gr:Int->Int}{fl:List D9}(h:Nl ο gr fl)(i:Int):0<=gr i:=h.sum i [] List.nodup_nil ay
theorem Nl.le{ο:Int->Int->LL}{gr:Int->Int}{fl:List D9}(h:Nl ο gr fl){a:Int}(ha:a≠0)(i:Int):dU (ο a i)<=gr i:=by
 have:=h.sum i [a] bR ay
 grind [LZ]
theorem DC{d:Int}{fl:List D9}{fL:Int->Bool}{s:C8}{W:Wk}{m:A9}(he:(ce d fl fL s W m).1=0) :
  JY d (fl++W.Ι) s W m=0/\dj W m<=1099511627776/\(ce d fl fL s W m).2.gr=K6 W.gr m.aT (dj W m)/\(ce d fl fL s W m).2.Ι=W.Ι++[fV d fl.length fL s W m]/\(ce d fl fL s W m).2.ο=if m.to=0 then Jf fL W m else K9 (Jf fL W m) m.to m.aT (bz (Jf fL W m m.to m.aT) (dZ d fl.length W,0,m.n)):=by
 grind [ce]
theorem DD{d:Int}{fl:List D9}{fL:Int->Bool}{s:C8}{W:Wk}{k:Nat}{m:A9}(h:MT d fl k W)(hm:ME m)(hk:k+m.Ζ.length<=2000)(hB:Nl W.ο W.gr (fl++W.Ι))(he:(ce d fl fL s W m).1=0) :
  (m.Ψ≠0->m.n<=dU (W.ο m.Ψ m.aT))/\(∀a i,a≠0->dU ((ce d fl fL s W m).2.ο a i)=dU (W.ο a i)+(if a=m.Ψ then(if i=m.aT then -m.n else 0) else 0)+(if a=m.to then(if i=m.aT then m.n else 0) else 0))/\(∀i,(ce d fl fL s W m).2.gr i=W.gr i+if i=m.aT then Pv m else 0)/\Nl (ce d fl fL s W m).2.ο (ce d fl fL s W m).2.gr (fl++(ce d fl fL s W m).2.Ι):=by
 obtain⟨e1,e2,e3,e4,e5⟩:=DC he;rw[e3,e4,e5];have hn:=hm.n;have a5:=hm.ne;have a2:m.Ψ≠0->dU (uc fL W m)=dU (W.ο m.Ψ m.aT) - m.n:=λh0=>Fk (mixed:=fL m.aT) (h.ο m.Ψ m.aT) hm h0 e1
 have I:m.Ψ≠0->m.n<=dU (W.ο m.Ψ m.aT):=λh0=>by
  have g1:=(wr (fL:=fL) h hm B e1 m.Ψ m.aT).C0;unfold Jf K9 at g1;rw[Ω h0,μ ⟨rfl,rfl⟩] at g1;have:=Gy g1
  omega
 have hG:∀a i,dU (Jf fL W m a i)=dU (W.ο a i)+(if m.Ψ≠0/\a=m.Ψ/\i=m.aT then -m.n else 0):=λa i=>by
  unfold Jf;grind [K9]
 have hS:∀a i,a≠0->dU ((if m.to=0 then Jf fL W m else K9 (Jf fL W m) m.to m.aT (bz (Jf fL W m m.to m.aT) (dZ d fl.length W,0,m.n))) a i)=dU (W.ο a i)+(if a=m.Ψ then(if i=m.aT then -m.n else 0) else 0)+(if a=m.to then(if i=m.aT then m.n else 0) else 0):=λa i ha=>by
  have g:=hG a i
  have e0:(if m.Ψ≠0/\a=m.Ψ/\i=m.aT then -m.n else 0)=(if a=m.Ψ then(if i=m.aT then -m.n else 0) else 0):=by
   by_cases q1:a=m.Ψ
   .omega
   .omega
  grind [K9,nG]
 have hT:∀i,K6 W.gr m.aT (dj W m) i=W.gr i+if i=m.aT then Pv m else 0:=by grind [K6,dj,Pv]
 refine⟨I,hS,hT,⟨λi Μ hA h0=>?_,λi=>?_,?_,λi=>?_⟩⟩
 .rw[hT i];by_cases qi:i=m.aT
  case neg =>
   rw[Ω qi,Int.add_zero];rw[nj (g:=λa=>dU (W.ο a i)) ay];exact hB.sum i Μ hA h0
  rw[μ qi]
  have hs:LZ (λa=>dU ((if m.to=0 then Jf fL W m else K9 (Jf fL W m) m.to m.aT (bz (Jf fL W m m.to m.aT) (dZ d fl.length W,0,m.n))) a i)) Μ=LZ (λa=>dU (W.ο a i)) Μ+(if m.Ψ∈Μ then -m.n else 0)+(if m.to∈Μ then m.n else 0):=by
   rw[nj (g:=λa=>(dU (W.ο a i)+(if a=m.Ψ then -m.n else 0))+(if a=m.to then m.n else 0)) ay];rw[ql (f:=λa=>dU (W.ο a i)+(if a=m.Ψ then -m.n else 0)) hA,ql (f:=λa=>dU (W.ο a i)) hA]
  rw[hs];have hb:=hB.sum i Μ hA h0;by_cases f0:m.Ψ=0
  .grind [Pv]
  .have hl:=I f0;by_cases fA:m.Ψ∈Μ
   .grind [Pv]
   .rw[Ω fA];have a3:dU (W.ο m.Ψ i)+LZ (λa=>dU (W.ο a i)) Μ<=W.gr i:=hB.sum i (m.Ψ::Μ) ay ay;grind [Pv]
 .have hg:Jf fL W m 0 i=[]:=by
   unfold Jf;split
   .exact hB.Se i
   .rename_i f0;unfold K9;rw[Ω B];exact hB.Se i
  grind [K9]
 .intro a i r
  have Φ:W.ο a i≠[]->∃f∈fl++(W.Ι++[fV d fl.length fL s W m]),f.to=a/\f.aT=i:=λq=>by
   obtain⟨f,hf,e⟩:=hB.src a i q;grind
  have a4:Jf fL W m a i≠[]->W.ο a i≠[]:=λq Θ=>by
   unfold Jf at q;grind [K9,dU]
  by_cases t0:m.to=0
  .grind
  .rw[Ω t0] at r;by_cases hq:a=m.to/\i=m.aT
   .exact⟨fV d fl.length fL s W m,dx _ ay,hq.1.symm,hq.2.symm⟩
   grind [K9]
 .unfold K6;split
  .exact e2
  .exact hB.top i
inductive NU:Χ->List C8->Χ->Prop
 | nil (S:Χ):NU S [] S
 | cons {S S' : Χ} {s:C8} {ss:List C8}:(E2 S s).1=0->s.F=cp S->NU (bP S s) ss S'->NU S (s::ss) S'
def NU.snoc{S' : Χ}{s:C8}:∀{ss:List C8} {S:Χ},NU S ss S'->(E2 S' s).1=0->NU S (ss++[s.at (cp S')]) (bP S' s)
 | [],_,.nil _,h=>.cons (s:=s.at (cp S')) h rfl (.nil _)
 | u::ss,S,.cons J U h3,h=>.cons J U (NU.snoc h3 h)
theorem NU.pre:∀{ss:List C8} {S S' : Χ},NU S ss S'->∃z,S'.Ι=S.Ι++z
 | [],_,_,.nil _=>⟨[],ay⟩
 | s::ss,S,S',.cons J U h3=>by
  obtain⟨z,hz⟩:=h3.pre;obtain⟨w,hw⟩:=qb S s;grind
structure XY (n:Nat) (ο:Int->Int->LL) (gr:Int->Int) (t:List Int) (f:Int->Int->Int):Prop where
 len:t.length=n
 t:∀i:Nat,i<n->t[i]! = gr i
 f:∀a i,f a i=if a=0 then 0 else dU (ο a i)
theorem EY(d:Int)(c:D4):Nl (I2 d c).ο (I2 d c).gr (I2 d c).Ι:=by
 refine⟨λi Μ _ _=>?_,λ_=>rfl,λa i h=>iW rfl h,λ_=>by show(0:Int)<=1099511627776;omega⟩;show LZ (λ_=>dU ([]:LL)) Μ<=0
 have:∀Μ:List Int,LZ (λ_=>dU ([]:LL)) Μ=0:=λΜ=>by
  induction Μ with
  | nil=>rfl
  | cons a Μ ih =>
   grind [LZ,dU]
 grind
