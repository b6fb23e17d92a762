/- Lemmas. -/
import Derived.Test.YtlgpgjdggilkgaaGreatDoorEdaw
import Derived.Laws.CopyRow
set_option linter.all false
set_option maxHeartbeats 4000000
namespace Go.Proofs.YtlgpgjdggilkgaaGreatDoor
open Go.V
attribute [local irreducible] Β Y GP δ vi GF GE Z Ef C0 E CB GB V.Enters
def Vy(f t i n:Int):J5:=⟨⟨f,t,i,n,[]⟩,none,0⟩
def Ns(f t:Int)(am:List (Int×Int)):List J5:=am.map λa=>Vy f t a.1 a.2
def jz{L:Ι}(ad:OA)(n c:Nat)(am:List (Int×Int))[hrd:F5 L ad (Int×Int) eh 2 am](hn:n=am.length)(T:am.length<=1000)(f t:Int) :
  Υ Λ 147 #[ae ad n c,K f,K t] L (λv Ε=>∃gi iM,v=ae gi (Ns f t am).length iM/\Ε = μ cq 5 OC gi iM (Ns f t am)::L):=by
 subst hn;refine Υ.bd ?_;refine ML ?_;intros;refine Β.loop (α:=Nat×OA×Nat) (λg=>g.1<=am.length) (λg=>[(1,K f),(2,K t),(7,ae g.2.1 (Ns f t (am.take g.1)).length g.2.2),(10,ae ad am.length c),(11,K (am.length:Int)),(12,K (g.1:Int))]) (λg=>μ cq 5 OC g.2.1 g.2.2 (Ns f t (am.take g.1))::L) (λg=>am.length - g.1) (0,none,0) (aD _) aG (by dsimp only;rw[bA];exact E.c8 cq 5 OC) ?_;rintro⟨i,gi,iM⟩ hi;dsimp only at hi ⊢;have a5:(Ns f t (am.take i)).length=i:=by unfold Ns;rw[ak,aP];omega
 by_cases J:i<am.length
 case neg =>
  rw[aN D];refine ML ?_;intros;exact KX.en ⟨gi,iM,rfl,rfl⟩
 have a3:(i:Int).toNat=i:=D
 have a4:Ns f t (am.take (i+1))=Ns f t (am.take i)++[Vy f t am[i]!.1 am[i]!.2]:=by
  unfold Ns;rw[aB J,aQ,E7 J];rfl
 refine ML ?_;intros;rw[a3];refine Y.ef (Ef.a8 (Η:=cq) (e:=Vy f t am[i]!.1 am[i]!.2) rfl rfl rfl rfl rfl aY (mN _) D D) ac ?_;rintro _ _⟨a2,A,rfl,rfl⟩;rw[<-a4];refine ML ?_;intros;refine⟨(i+1,a2,A),by dsimp only;omega,by dsimp only;omega,?_,by exact aj⟩;dsimp only;rw[bJ i];exact aG
def vH{L:Ι}(b:Nat)(S:Τ) :
  Υ Λ 202 #[ay b] (aT b S::L) (F7 (K (S.Μ.length:Int)) (aT b S::L)):=by
 refine Υ.bd ?_;refine Β.c9 (f:=jW b S) ?_;intro x;simp only[jW,E1,aq,av];refine Β.d7 ?_;intro hF;have A:x.Μ.length=S.Μ.length:=by rw[<-hF.Μ];simp
 simp only[cJ];refine ML ?_;intros;exact KX.a8 aC (je x hF) ⟨by rw[<-A];rfl,rfl⟩
def zX{L:Ι}(ad:OA)(c:Nat)(O:List O7)[hrd:F5 L ad O7 fw 11 O](hA:∀f∈O,E L (OZ f::L))(T:O.length<=100000)(hp:∀m∈O,m.m.Γ.length<=1000000/\m.m.made.length<=1000000) :
  Υ Λ 52 #[ae ad O.length c,.func (.func 53) #[] #[]] L (λv Ε=>∃a3 c' J,v=ae a3 J.length c'/\J.map (·.m)=O.map (·.m)/\Ε = μ fw 11 gZ a3 c' J::h2 SV J::L):=by
 refine Υ.bd ?_;by_cases h0:O.length=0
 .have e:O=[]:=cc h0;subst e;refine ML ?_;intros;exact KX.a8 aC ((E.j6 SV).trans (E.c8 fw 11 gZ)) ⟨none,0,[],rfl,rfl,rfl⟩
 refine ML ?_;intros;refine Y.ef (Ef.j7 fw Oq rfl rfl rfl D D D D) ac ?_;rintro _ _⟨bs,rfl,rfl⟩;rw[show(O.length:Int).toNat=O.length by omega];refine ML ?_;intros
 refine Β.loop (α:=Nat×List O7) (λz=>z.1<=O.length/\z.2.length=O.length/\(z.2.take z.1).map (·.m)=(O.take z.1).map (·.m)) (λz=>[(1,.func (.func 53) #[] #[]),(5,ae (some ⟨bs,0,none⟩) O.length O.length),(14,ae ad O.length c),(15,K (O.length:Int)),(16,K (z.1:Int))])
  (λz=>μ fw 11 gZ (some ⟨bs,0,none⟩) O.length z.2::h2 SV (z.2.take z.1)::L) (λz=>O.length - z.1) (0,List.replicate O.length Oq) ⟨aD _,by simp,by simp⟩ aG ?_ ?_
 .dsimp only;rw[bA];refine(E.j6 SV).trans ?_;exact aj
 rintro⟨i,zs⟩ ⟨hi,a7,A⟩;dsimp only at hi a7 A ⊢;by_cases a2:i<O.length
 case neg =>
  have a9:i=O.length:=D;subst a9;rw[aN D,aN D] at A;rw[aN (D:zs.length<=O.length)];refine ML ?_;intros;refine KX.a8 aC (E.refl _) ⟨some ⟨bs,0,none⟩,O.length,zs,by rw[a7];rfl,A,rfl⟩
 have a4:(i:Int).toNat=i:=D;have a5:O[i]!∈O:=bI a2;have a6:=hp _ a5;refine ML ?_;intros;rw[a4];refine Y.cM (E.under (Φ:=[_,_,_]) (hA _ a5)) ?_;simp only[aq,av];refine Y.ef (Ef.f7 rfl rfl (Af O[i]! a6.1 a6.2)) ac ?_;rintro _ _⟨m',rfl,b0,rfl⟩;refine ML ?_;intros;refine Y.No (Ef.k8 (e:=m') rfl rfl aY aY (ob _) D) ?_;rintro _ _ rfl;rw[a4];refine ML ?_;intros;refine⟨(i+1,zs.set i m'),⟨by dsimp only;omega,by dsimp only;simp;omega,?_⟩,by dsimp only;omega,?_,?_⟩
 .dsimp only;rw[iO D,aB a2,aQ,aQ,A,<-E7 a2];simp[b0]
 .dsimp only;rw[bJ i];exact aG
 .dsimp only;rw[iO D];refine E.a8 ?_;refine E.trans (hx:=SV m'::h2 SV (zs.take i)::L) aj ?_;exact E.l0
abbrev Bw:=Yv [.ef 13,.ev 14]
def SO{φ ψ:Prop}(k:ψ)(h:Hid ψ->φ:=by intro k;(repeat (first|refine ab ?_|intro B8|refine Β.dr 19 1 Bw ?_));(repeat revert B8);exact Hid.out k):φ:=h ⟨k⟩
def vG{L:Ι}(b:Nat)(S:Τ)(k:Nat)(hk:k<=S.Μ.length)(hS:∀f∈S.Μ.drop k,f.Γ.length<=1000000/\f.made.length<=1000000)(T:S.Μ.length<=k+100000) :
  Υ Λ 203 #[ay b,K (k:Int)] (aT b S::L) (λv Ε=>∃ad cap fs,v=ae ad fs.length cap/\fs.map O7.m=S.Μ.drop k/\Ε = μ fw 11 gZ ad cap fs::h2 SV fs::aT b S::L):=by
 refine Υ.bd ?_;refine Β.c9 (f:=jW b S) ?_;intro x;simp only[jW,E1,aq,av];refine Β.d7 ?_;intro hF;have a6:x.Μ.length=S.Μ.length:=by rw[<-hF.Μ];simp
 have a2:(x.Μ.drop k).map O7.m=S.Μ.drop k:=by rw[<-hF.Μ,List.map_drop]
 refine Β.c8 (KX (ad:=x.C4) (cap:=x.F3) (G:=x.Μ) (Η:=fw) (sz:=11) (ζ:=gZ)) ?_;rintro⟨a4,_⟩;have a3:(max 0 (min (k:Int) (x.Μ.length:Int))).toNat=k:=D
 have hE:∀ο:Ι,Υ Λ 52 #[ae (NJ x.C4 x.F3 11 (max 0 (min (k:Int) (x.Μ.length:Int))).toNat) (x.Μ.length - (max 0 (min (k:Int) (x.Μ.length:Int))).toNat) (x.F3 - (max 0 (min (k:Int) (x.Μ.length:Int))).toNat),.func (.func 53) #[] #[]] (Pt fw 11 gZ x.C4 x.F3 x.Μ::η OZ x.Μ::ο) (λv Ε=>∃J c' A,v=ae J A.length c'/\A.map (·.m)=(x.Μ.drop k).map (·.m)/\Ε = μ fw 11 gZ J c' A::h2 SV A::Pt fw 11 gZ x.C4 x.F3 x.Μ::η OZ x.Μ::ο):=λο=>by
  rw[a3];have h:=zX (L:=Pt fw 11 gZ x.C4 x.F3 x.Μ::η OZ x.Μ::ο) (NJ x.C4 x.F3 11 k) (x.F3 - k) (x.Μ.drop k) (hrd:=F5.drop inferInstance a4 k) (λf hf=>(E.at (Φ:=η OZ x.Μ) (E.d8 (f:=OZ) (eK hf))).trans aj) (by rw[cB];omega) (λf hf=>hS f.m (by rw[<-a2];exact O6 hf));rw[cB] at h;exact h
 simp only[cJ];refine SO ?_;intros;refine δ.cM (E.at (Φ:=Pt fw 11 gZ x.C4 x.F3 x.Μ) (E.a8 (E.at (Φ:=η OZ x.Μ) (E.refl _)))) ?_;refine δ.ca (hE _) ?_;rintro _ _⟨ad,cap,fs,rfl,a5,rfl⟩;refine SO ?_;intros;refine KX.a8 aC ?_ ⟨ad,cap,fs,rfl,a5.trans a2,rfl⟩;refine E.trans ?_ (E.a8 (E.a8 (je x hF)));simp only[E1,cJ];exact aj
end Go.Proofs.YtlgpgjdggilkgaaGreatDoor
namespace Go.V
section
section fv
variable {P:Program}{N:Nat}{env:Env}{L:Ι}{Ρ:F8}{ty:TypeId}
end fv
end
section
section
variable {P:Program}{env:Env}{L:Ι}{ty:TypeId}
theorem Ef.l9{t:TypeId}{x:Operand}{α:Type}{Η:α->χ}{ad:OA}{n c i sz ζ bb cap:Nat}{G:List α}{z:χ}{R1:Ι}[ht:M9 P t ζ sz bb z][hp:RH L ad α Η sz ζ cap G R1]
  (M:bG env x=some (.slice (NJ ad cap sz i) n c)) (hi:i+n=G.length) (I:∀u∈z,u.oneCell' = true)
  : Ef P L env (.call { callee:=.builtin .clear,args:=#[x],argTypes:=#[t] }) ty (λv Ε=>v=.tuple #[]/\Ε = μ Η sz ζ ad cap (G.take i)::R1) :=
 Ef.val (λθ R a w ea s b3 pos af g=>by
  have s1:=s.perm (hp.perm.append_right R);obtain⟨ii,z0,i1,i2,i3,i4,i5⟩:=ht.Γ;have J:Sat θ (μ Η sz ζ ad cap (G.take i)::R1++R) w:=E.n5 i θ R w s1;by_cases hn:n=0
  .subst hn;refine⟨.tuple #[],w,_,?_,⟨rfl,rfl⟩,J⟩;cases hd:NJ ad cap sz i with
   | none=>rw[hd] at M;simp[execOp,resolve,invoke,builtin,aI ea M,Builtin.clear_,run_underlying ht.under]
   | some Ξ=>rw[hd] at M;simp[execOp,resolve,invoke,builtin,aI ea M,Builtin.clear_,run_underlying ht.under]
  obtain⟨p1,p2,p3,p4⟩:=Sat.Qw s1;rcases p4 with⟨rfl,rfl⟩|⟨gb,A,rfl,f1,f2,f3⟩
  .omega
  have hb:w.heap[gb]? = some (.cells A ζ (0,0)):=f3.M8;have a7:=bS sz p2
  have a6:NJ (some ⟨gb,0,none⟩) cap sz i=some ⟨gb,i*sz,none⟩:=by
   unfold NJ;rw[Ο D];simp[fV]
  rw[a6] at M;have a5:z0.cells.size=sz:=by rw[<-ht.Tf,<-i3];simp
  obtain⟨vs,a3⟩:∃vs,vs=(Builtin.zeroCells z0.cells n).toList:=⟨_,rfl⟩;have b5:vs.length=n*sz:=by rw[a3,dY,size_zeroCells,a5]
  have b2:∀u∈vs,u.oneCell' = true:=by
   intro u hu;rw[a3] at hu;simp only[Builtin.zeroCells,Array.toList_map,List.mem_map,Array.toList_range,List.mem_range] at hu;obtain⟨k,hk,rfl⟩:=hu;have a2:0<z0.cells.size:=by rw[a5];exact ht.pos
   have b0:k % z0.cells.size<z0.cells.size:=dW _ a2;refine I _ ?_;rw[<-i3,getElem!_pos z0.cells _ b0];exact ah
  have b1:i*sz+n*sz=G.length*sz:=by rw[<-dX,hi]
  have a4:=run_storeCells_at P gb (i*sz) ζ vs 0 A w hb D b2;simp only[dw] at a4;refine⟨.tuple #[],w.setRow gb (A.toList.take (i*sz)++vs++A.toList.drop (i*sz+vs.length)).toArray,_,?_,⟨rfl,rfl⟩,?_⟩
  .obtain⟨m,rfl⟩:∃m,n=m+1:=⟨n - 1,D⟩;simp[execOp,resolve,invoke,builtin,aI ea M,Builtin.clear_,run_underlying ht.under,zeroValue,typeInfo,i1,i2,<-a3,a4]
  .have s3:Sat θ (sh gb (.cells (A.toList.take (i*sz)++vs++A.toList.drop (i*sz+vs.length)).toArray ζ (0,0))::(R1++R)) (w.setRow gb (A.toList.take (i*sz)++vs++A.toList.drop (i*sz+vs.length)).toArray) :=
    Sat.update f3 ⟨s.1.tape,s.1.os,s.1.output,s.1.drawn⟩ (setRow_heap w gb _ _ ζ _ hb) (by grind [setRow_other])
   have b4:(G.take i).length=i:=by rw[aP];omega
   refine Sat.Rm (L:=R1++R) s3 ah D p3 ?_ ?_
   .simp;omega
   .have a9:=dd (G:=G.take i) (λx M=>p1 x (cI M));grind [cL])
end
end
end Go.V
namespace Go.Proofs.YtlgpgjdggilkgaaGreatDoor
section
open Go.V
attribute [local irreducible] Β Y GP δ vi GF GE Z Ef C0 E CB GB V.Enters
end
section
open Go.V
attribute [local irreducible] Β Y GP δ vi Z Ef C0 E CB GB V.Enters
end
section
open Go.V
abbrev C5:Nat:=147
structure NQ (d:Int) (c:B4) (k:Nat) (S:Τ):Prop where
 rep:PK d c S
 a:St k S
 now:0<=S.now
 υ:S.υ=c
 ok:c.Ok
 d:S.D9=d
def GT(S:Τ)(s:D7):(bN S s).D9=S.D9:=by
 unfold bN;split
 .rfl
 .rfl
def NQ.post{d:Int}{c:B4}{k:Nat}{S:Τ}(h:NQ d c k S)(s:D7)(hk:k+C6 s.gN<=2000):NQ d c (k+C6 s.gN) (bN S s):=by
 have hA:=(CQ (s:=s) h.a hk).1;by_cases q:(E2 S s).1=0
 .have e:bN S s=fF S s:=Ω q;exact⟨.post h.rep q,hA,by rw[e];exact GQ (jf q) h.now,(wI _ _).trans h.υ,h.ok,(GT _ _).trans h.d⟩
 .have e:bN S s=S:=Ο q;rw[e] at hA ⊢;exact⟨h.rep,hA,h.now,h.υ,h.ok,h.d⟩
def hl(lb:Nat)(d F ν T:Int)(mb mp mr:Nat):χ:=[ay lb,K d,K F,K ν,K T,.map (some mb),.map (some mp),.map (some mr)]
def NR(Ζ B:Int)(O:List J5)(gi:OA)(iM:Nat):L9:=⟨0,Ζ,0,B,-1,0,O,gi,iM⟩
noncomputable def ki(S:Τ)(s:D7):List Int:=((bN S s).Μ.drop S.Μ.length).map (·.r)
attribute [local irreducible] Β Y GP δ vi GF GE Z Ef C0 E CB GB V.Enters
abbrev Bv:=Yr [.ev 4,.ef 5,.ev 6,.ev 7,.ev 8,.ev 9,.ev 10]
def SQ{φ ψ:Prop}(k:ψ)(h:Hid ψ->φ:=by intro k;(repeat (first|refine ab ?_|intro B8|refine Β.dr 55 3 Bv ?_));(repeat revert B8);exact Hid.out k):φ:=h ⟨k⟩
theorem uu{L:Ι}(nb lb:Nat)(d F ν T:Int)(mb mp mr:Nat)(c:B4)(k:Nat)(S:Τ)(hS:NQ d c k S)(Ζ B:Int)(O:List J5)(gi:OA)(iM:Nat)(hs:RN (NR Ζ B O gi iM))(a4:O.length<=iM)(hk:k+C6 (O.map J5.m)<=2000) :
  Υ Λ 146 #[ay nb,K Ζ,K B,ae gi O.length iM] (obj nb C5 (hl lb d F ν T mb mp mr)::aT lb S::stM (NR Ζ B O gi iM)::Nb (NR Ζ B O gi iM)::L) (λv Ε =>
   ((E2 S (NR Ζ B O gi iM).m).1=0/\∃C4 F3,v=.tuple #[ae C4 (ki S (NR Ζ B O gi iM).m).length F3,.bool true]/\Ε = μ (eU .i64) 1 C3 C4 F3 (ki S (NR Ζ B O gi iM).m)::obj nb C5 (hl lb d F ν T mb mp mr)::aT lb (bN S (NR Ζ B O gi iM).m)::stM (NR Ζ B O gi iM)::Nb (NR Ζ B O gi iM)::L) \/
   ((E2 S (NR Ζ B O gi iM).m).1≠0/\v=.tuple #[ae none 0 0,.bool false]/\Ε = obj nb C5 (hl lb d F ν T mb mp mr)::aT lb S::stM (NR Ζ B O gi iM)::Nb (NR Ζ B O gi iM)::L)):=by
 have b3:S.υ.Ok:=by rw[hS.υ];exact hS.ok
 have c5:=hS.a.g.Μ;have d0:=hS.a.g.Ev;have A:=λο:Ι=>kX (L:=ο) lb S k hS.a b3 hS.now (NR Ζ B O gi iM) hs a4 hk tY;have a7:=hS.post (NR Ζ B O gi iM).m hk;have c3:=sr S (NR Ζ B O gi iM).m;have a5:=λh:(E2 S (NR Ζ B O gi iM).m).1=0=>(tw (s:=(NR Ζ B O gi iM).m) hS.a hk h).2;have c1:(E2 S (NR Ζ B O gi iM).m).1≠0->bN S (NR Ζ B O gi iM).m=S:=λh=>Ο h;have J:(E2 S (NR Ζ B O gi iM).m).1=0->(bN S (NR Ζ B O gi iM).m).Μ=S.Μ++(E2 S (NR Ζ B O gi iM).m).2.Μ:=by grind [bN,fF]
 refine Υ.bd ?_;simp only[hl];refine SQ ?_;intros;generalize Zh:NR Ζ B O gi iM=s at *;have b1:eH s=[K 0,K Ζ,K 0,K B,K (-1),K 0,ae gi O.length iM]:=by rw[<-Zh];rfl
 refine Y.cM (Ε:=aT lb S::(obj nb C5 [ay lb,K d,K F,K ν,K T,.map (some mb),.map (some mp),.map (some mr)]::stM s::Nb s::L)) aj ?_;refine Y.cr (vH lb S) ?_;by_cases he:(E2 S s.m).1=0
 case neg =>
  have a6:=c1 he;obtain⟨w,hw⟩:∃w,(E2 S s.m).1=w:=⟨_,rfl⟩;rw[a6,hw] at A;rw[b1] at A;have d1:w≠0:=by rw[<-hw];exact he
  refine SQ ?_;intros;rename_i a2;refine δ.cM (Ε:=aT lb S::stM s::Nb s::(obj a2 jh [K 0,K Ζ,K 0,K B,K (-1),K 0,ae gi O.length iM]::obj nb C5 [ay lb,K d,K F,K ν,K T,.map (some mb),.map (some mp),.map (some mr)]::L)) aj ?_;refine δ.cr (A _) ?_;refine SQ ?_;intros;exact KX.en (.inr ⟨he,rfl,rfl⟩)
 rw[he,b1] at A;have b7:(bN S s.m).Μ.drop S.Μ.length=(E2 S s.m).2.Μ:=by rw[J he,List.drop_left]
 obtain⟨c2,b9⟩:=a5 he;have c0:s.m.gN.length<=64:=c2.2.2.2.1.2;have b5:(bN S s.m).Μ.length=S.Μ.length+s.m.gN.length:=by rw[J he,aA,b9]
 have b4:∀f∈(bN S s.m).Μ.drop S.Μ.length,f.Γ.length<=1000000/\f.made.length<=1000000:=λf hf=>by
  have I:=eK hf;have Q:=(a7.a.g.fl f I).2;have h3:=a7.rep.made f I;omega
 refine SQ ?_;intros;rename_i a2;refine δ.cM (Ε:=aT lb S::stM s::Nb s::(obj a2 jh [K 0,K Ζ,K 0,K B,K (-1),K 0,ae gi O.length iM]::obj nb C5 [ay lb,K d,K F,K ν,K T,.map (some mb),.map (some mp),.map (some mr)]::L)) aj ?_;refine δ.cr (A _) ?_;refine SQ ?_;intros;refine Y.cM (Ε:=aT lb (bN S s.m)::(stM s::Nb s::obj nb C5 [ay lb,K d,K F,K ν,K T,.map (some mb),.map (some mp),.map (some mr)]::L)) aj ?_;refine Y.ca (vG lb (bN S s.m) S.Μ.length D b4 D) ?_;rintro _ _⟨C4,F3,fs,rfl,a9,rfl⟩
 have b6:fs.length=s.m.gN.length:=by
  have:=congrArg List.length a9
  rw[ak,cB] at this;omega
 refine SQ ?_;intros;refine Β.loop (α:=Nat×OA×Nat) (λg=>g.1<=fs.length) (λg=>[(14,ae g.2.1 ((fs.take g.1).map (·.m.r)).length g.2.2),(42,ae C4 fs.length F3),(43,K (fs.length:Int)),(44,K (g.1:Int))]) (λg=>μ (eU .i64) 1 C3 g.2.1 g.2.2 ((fs.take g.1).map (·.m.r))::μ fw 11 gZ C4 F3 fs::aT lb (bN S s.m)::stM s::Nb s::obj nb C5 [ay lb,K d,K F,K ν,K T,.map (some mb),.map (some mp),.map (some mr)]::L) (λg=>fs.length - g.1) (0,none,0) D aG ?_ ?_
 .dsimp only;rw[bA,bu];refine(E.c8 (eU .i64) 1 C3).trans ?_;exact aj
 rintro⟨i,I6,K1⟩ hi;dsimp only at hi ⊢;have c6:((fs.take i).map (·.m.r)).length=i:=by rw[ak,aP];omega
 by_cases b0:i<fs.length
 case neg =>
  have hN:(fs.take i).map (·.m.r)=ki S s.m:=by
   unfold ki;rw[<-a9,cu,aN D];rfl
  rw[hN];refine SQ ?_;intros;exact KX.en (.inl ⟨he,I6,K1,rfl,rfl⟩)
 have b8:(i:Int).toNat=i:=D
 have c4:(fs.take (i+1)).map (·.m.r)=(fs.take i).map (·.m.r)++[fs[i]!.m.r]:=by
  rw[aB b0,aQ,E7 b0];rfl
 refine SQ ?_;intros;rw[b8];refine Y.ef (Ef.a8 (Η:=eU .i64) (e:=fs[i]!.m.r) rfl rfl rfl rfl rfl aY (iq _ _) D D) ac ?_;rintro _ _⟨b2,a3,rfl,rfl⟩;rw[<-c4];refine SQ ?_;intros;refine⟨(i+1,b2,a3),by dsimp only;omega,D,?_,by exact aj⟩;dsimp only;rw[bJ i];exact aG
end
end Go.Proofs.YtlgpgjdggilkgaaGreatDoor
namespace Go.V
section
variable {P:Program}{N:Nat}{env:Env}{L:Ι}{ty:TypeId}{κ α:Type}[DecidableEq κ]
theorem Z.A1{t:TypeId}{x y:Operand}{Ρ ζ:Nat}{z A:Value}(kv:κ->Value){k:κ}[ht:PD P t Ρ ζ z][hk:Qx P Ρ kv](M:bG env x=some (.map none))(U:bG env y=some A)[J:RX kv A k] :
  Z P L env (.lookup t x y false) ty z :=
 Z.mk (λθ R _ w ea s _ _ _ _=>by
  obtain rfl:=J.eq;have h3:=ht.zero;have hf:=pR (P:=P) (Ρ:=Ρ) (kv:=kv) (Η:=λv:Value=>v) (m:=[]) (es:=#[]) k w rfl;simp at hf;cases hi:P.info? ζ with
  | none=>grind
  | some i =>
   rw[hi] at h3;simp at h3;simp[execOp,aI ea M,aI ea U,Instr.lookup,run_underlying ht.under,hk.check,zeroValue,typeInfo,hi,h3,hf])
omit [DecidableEq κ] in
def Z.TM{t:TypeId}{x:Operand}{b Ρ ζ:Nat}{z:Value}{kv:κ->Value}{Η:α->Value}{m:List (κ×α)}{G1:Ι}[ht:PD P t Ρ ζ z][hp:Qg L b κ α kv Η m G1](M:bG env x=some (.map (some b))) :
  Z P L env (.call { callee:=.builtin .len,args:=#[x],argTypes:=#[t] }) ty (K (m.length:Int)) :=
 Z.mk (λθ R _ w ea s _ _ _ _=>by
  obtain⟨es,A,e1,e2,e3,e4,e5,s2⟩:=(s.perm (hp.perm.append_right R)).SK;have hb:=s2.M8;have J:(getObj b).run P w=.ok (.map es A) w:=by simp[getObj,Sem.run,hb]
  have T:es.size=m.length:=by
   have:=congrArg List.length e1
   simpa using this
  simp[execOp,resolve,invoke,builtin,aI ea M,Builtin.len_,run_underlying ht.under,goInt,J,T])
theorem Z.g8{t:TypeId}{x:Operand}{ad:OA}{sz j o n:Nat}{α:Type}[Inhabited α]{Η:α->χ}{G:List α}{vs:χ}[ht:Nw P t n][hr:F5 L ad α Η sz G]
  (M:bG env x=some (.pointer (OQ ad sz j o))) (hj:j<G.length) (hs:RZ o n (Η G[j]!) some=some vs):Z P L env (.load t x) ty (.agg vs.toArray) :=
 Z.mk (λθ R _ w ea s _ _ _ _=>by
  obtain⟨q1,q2⟩:=rr _ _ _ _ _ hs;simp only[Option.some.injEq] at q2;subst q2;obtain⟨I,Q⟩:=hr.rd θ R w s;rcases Q with Q|⟨a,rfl,h3⟩
  .grind
  .have J:(Η G[j]!).length=sz:=ah;have a2:=λk (hk:k<sz)=>nw (Η:=Η) (sz:=sz) (G:=G) (j:=j) (o:=k) I hj hk;generalize Η G[j]! = cs at *;have T:=run_loadCells_list (P:=P) w (a.add (j*sz+o)) ((cs.drop o).take n) (by grind [Addr.add]);have A:((cs.drop o).take n).length=n:=by simp;omega
   rw[A] at T;simp[execOp,aI ea M,OQ,Instr.loadAt,Instr.sureAddr,loadVar,ht.run,Nw.QL,T])
end
end Go.V
namespace Go.Proofs.YtlgpgjdggilkgaaGreatDoor
open Go.V
abbrev B2:Nat:=98
abbrev Pg:Nat:=150
structure fK where
 Ν:Int
 to:Int
 ct:G4
 deriving Inhabited,DecidableEq
structure N7 where
 m:fK
 ad:OA
 cap:Nat
 deriving Inhabited
def be(x:N7):χ:=[K x.m.Ν,K x.m.to,ae x.ad (OR x.m.ct).length x.cap]
def ec(x:N7):∀u∈be x,u.oneCell' = true:=by simp[be,Value.oneCell']
instance:Rl be:=⟨ec⟩
abbrev gO(x:N7):HP:=τ (eU .u8) 1 x.ad (OR x.m.ct)
def fj(x:N7):Og (gO x):=cT _ _ _ _
def bM(b:Bool):Value:=.bool b
def Nh(l:List Int):List (Int×Bool):=l.map λg=>(g,true)
def ya(k:Int):∀l:List Int,((ε (Nh l) k).map bM).getD (.bool false)=.bool (dB (k∈l))
 | []=>by rw[bz (λh=>iJ h aH)];rfl
 | g::l=>by
  by_cases h:k=g
  .subst h;rw[bO au];simp[Nh,bM,ε]
  .have Q:(k == g)=false:=by simpa using h
   have ih:=ya k l;rw[show dB (k∈g::l)=dB (k∈l) by rw[dF,dF];simp[h],<-ih];unfold Nh ε;rw[al,cA];simp only[Q]
structure N8 where
 b:Nat
 Α:List MT
 bD:OA
 id:Nat
 lq:List Int
 M4:OA
 OT:Nat
 C7:Int
 I8:List Int
 mv:Nat
 told:List Int
 mt:Nat
 dec:Bool
 F4:Bool
 deriving Inhabited
def NC(x:N8):χ:=[ae x.bD x.Α.length x.id,ae x.M4 x.lq.length x.OT,K x.C7,.map (some x.mv),.map (some x.mt),.bool x.dec,.bool x.F4]
attribute [local irreducible] Β Y GP δ vi GF GE Z Ef C0 E CB GB V.Enters
abbrev Bu:=Ys [.ef 6,.ev 7,.ef 8]
def SZ{φ ψ:Prop}(k:ψ)(h:Hid ψ->φ:=by intro k;(repeat (first|refine ab ?_|intro B8|refine Β.dr 15 1 Bu ?_));(repeat revert B8);exact Hid.out k):φ:=h ⟨k⟩
def fE{L:Ι}(nb lb:Nat)(d F ν T:Int)(mb mp mr:Nat)(to:Int)(c:OK)(hc:OL c.m) :
  Υ Λ 148 #[ay nb,K to,bC (eO c)] (obj nb C5 (hl lb d F ν T mb mp mr)::MV c::L) (λv Ε=>∃x:N7,v=bC (be x)/\x.m=⟨d,to,c.m⟩/\Ε = gO x::obj nb C5 (hl lb d F ν T mb mp mr)::MV c::L):=by
 refine Υ.bd ?_;simp only[hl];refine SZ ?_;intros;rename_i bc br;refine δ.cM (Ε:=MV c::(obj br B2 [K 0,K 0,ae none 0 0]::obj nb C5 [ay lb,K d,K F,K ν,K T,.map (some mb),.map (some mp),.map (some mr)]::L)) aj ?_;refine δ.ca (BR c hc) ?_;rintro _ _⟨ad,cap,rfl,rfl⟩;refine SZ ?_;intros;refine KX.a8 (by exact C9.cell rfl aY (C9.nil)) ?_ ⟨⟨⟨d,to,c.m⟩,ad,cap⟩,rfl,rfl,rfl⟩;refine(E.at (Φ:=μ (eU .u8) 1 5 ad cap (OR c.m)) E.NZ).trans ?_;exact aj
def ck(d:Int)(gs:List Int)(W:List Int)(ct:G4):List fK:=(gs.filter λg=>decide (¬g∈W)).map λg=>⟨d,g,ct⟩
def Az(d:Int)(gs W:List Int)(ct:G4){i:Nat}(h:i<gs.length):ck d (gs.take (i+1)) W ct=ck d (gs.take i) W ct++(if gs[i]!∈W then[] else[⟨d,gs[i]!,ct⟩]):=by
 unfold ck;rw[aB h,List.filter_append,aQ,E7 h];congr 1;by_cases q:gs[i]∈W
 .rw[Ω q];simp[q]
 .rw[Ο q];simp[q]
theorem kQ(d:Int)(gs W:List Int)(ct:G4):(ck d gs W ct).length<=gs.length:=by
 unfold ck;rw[ak];exact fD _ _
def my{L:Ι}(nb lb:Nat)(d F ν T:Int)(mb mp mr:Nat)(x:N8)(hg:x.lq.length<=100)(c:OK)(hc:OL c.m)(mw:Option Nat)(W:List Int)(hW:(mw=none/\W=[])\/∃b R,mw=some b/\L=ew gT bM b (Nh W)::R) :
  Υ Λ 114 #[ay nb,.pointer (some ⟨x.b,0,none⟩),bC (eO c),.map mw] (obj nb C5 (hl lb d F ν T mb mp mr)::MV c::obj x.b Pg (NC x)::τ (eU .i64) 1 x.M4 x.lq::L) (λv Ε=>∃ad cap O,v=ae ad O.length cap/\O.map (·.m)=ck d x.lq W c.m/\Ε = μ be 3 B2 ad cap O::η gO O::obj nb C5 (hl lb d F ν T mb mp mr)::MV c::obj x.b Pg (NC x)::τ (eU .i64) 1 x.M4 x.lq::L):=by
 refine Υ.bd ?_;simp only[hl,NC];refine ML ?_;intros;rename_i b6;refine Β.loop (α:=Nat×OA×Nat×List N7) (λg=>g.1<=x.lq.length/\g.2.2.2.map (·.m)=ck d (x.lq.take g.1) W c.m) (λg=>[(0,ay nb),(3,.map mw),(6,ay b6),(9,ae g.2.1 g.2.2.2.length g.2.2.1),(15,ae x.M4 x.lq.length x.OT),(16,K (x.lq.length:Int)),(17,K (g.1:Int))]) (λg=>μ be 3 B2 g.2.1 g.2.2.1 g.2.2.2::η gO g.2.2.2::obj b6 Oo (eO c)::obj nb C5 [ay lb,K d,K F,K ν,K T,.map (some mb),.map (some mp),.map (some mr)]::MV c::obj x.b Pg [ae x.bD x.Α.length x.id,ae x.M4 x.lq.length x.OT,K x.C7,.map (some x.mv),.map (some x.mt),.bool x.dec,.bool x.F4]::τ (eU .i64) 1 x.M4 x.lq::L) (λg=>x.lq.length - g.1) (0,none,0,[]) ⟨aD _,by dsimp only;rw[bA];rfl⟩ aG ?_ ?_
 .dsimp only;refine(E.c7 gO).trans ((E.c8 be 3 B2).trans ?_);exact aj
 rintro⟨i,ad,cap,O⟩ ⟨hi,J⟩;dsimp only at hi J ⊢
 have a7:O.length<=100:=by
  have I:=congrArg List.length J;have Q:=kQ d (x.lq.take i) W c.m;rw[ak] at I;rw[aP] at Q;omega
 by_cases a6:i<x.lq.length
 case neg =>
  rw[aN D] at J;refine ML ?_;intros;exact KX.en ⟨ad,cap,O,rfl,J,rfl⟩
 have a4:(i:Int).toNat=i:=D;have a2:=Az d x.lq W c.m a6;refine ML ?_;intros;rw[a4];rcases hW with⟨rfl,rfl⟩|⟨b,R,rfl,rfl⟩
 .refine Y.ev (Z.A1 gT rfl rfl) ac ?_;have hq:¬x.lq[i]!∈([]:List Int):=aH;rw[Ο hq] at a2;refine ML ?_;intros;refine Y.cM (Ε:=obj nb C5 [ay lb,K d,K F,K ν,K T,.map (some mb),.map (some mp),.map (some mr)]::MV c::(μ be 3 B2 ad cap O::η gO O::obj b6 Oo (eO c)::obj x.b Pg [ae x.bD x.Α.length x.id,ae x.M4 x.lq.length x.OT,K x.C7,.map (some x.mv),.map (some x.mt),.bool x.dec,.bool x.F4]::τ (eU .i64) 1 x.M4 x.lq::L)) aj ?_;refine Y.ca (fE nb lb d F ν T mb mp mr x.lq[i]! c hc) ?_;rintro _ _⟨y,rfl,U,rfl⟩;simp only[hl];refine ML ?_;intros;refine Y.ef (Ef.a8 (Η:=be) (e:=y) rfl rfl rfl rfl rfl aY (ec _) D D) ac ?_;rintro _ _⟨a3,A,rfl,rfl⟩;refine ML ?_;intros;refine⟨(i+1,a3,A,O++[y]),⟨by dsimp only;omega,by dsimp only;rw[aQ,J,a2,al,bu,U]⟩,by dsimp only;omega,?_,?_⟩
  .dsimp only;rw[bJ i];exact aG
  .dsimp only;refine(E.at (Φ:=gO y) (E.d7 (f:=gO) fj)).trans ?_;refine(E.at (Φ:=η gO [y]) (E.refl _)).trans ?_;refine(E.at (Φ:=η gO O) (E.refl _)).trans ?_;refine(E.c9 (f:=gO) fj).trans ?_;exact aj
 .refine Y.ev (Z.j6 rfl rfl) ac ?_;have a5:=ya x.lq[i]! W;rw[show(Option.map bM (List.lookup x.lq[i]! (Nh W))).getD (.bool false)=.bool (dB (x.lq[i]!∈W)) from a5];by_cases hq:x.lq[i]!∈W
  .rw[Ω hq,aJ] at a2;rw[bO hq];refine ML ?_;intros;refine⟨(i+1,ad,cap,O),⟨by dsimp only;omega,by dsimp only;rw[a2,J]⟩,by dsimp only;omega,?_,by exact aj⟩;dsimp only;rw[bJ i];exact aG
  .rw[Ο hq] at a2;rw[bz hq];refine ML ?_;intros;refine Y.cM (Ε:=obj nb C5 [ay lb,K d,K F,K ν,K T,.map (some mb),.map (some mp),.map (some mr)]::MV c::(μ be 3 B2 ad cap O::η gO O::obj b6 Oo (eO c)::obj x.b Pg [ae x.bD x.Α.length x.id,ae x.M4 x.lq.length x.OT,K x.C7,.map (some x.mv),.map (some x.mt),.bool x.dec,.bool x.F4]::τ (eU .i64) 1 x.M4 x.lq::ew gT bM b (Nh W)::R)) aj ?_;refine Y.ca (fE nb lb d F ν T mb mp mr x.lq[i]! c hc) ?_;rintro _ _⟨y,rfl,U,rfl⟩;simp only[hl];refine ML ?_;intros;refine Y.ef (Ef.a8 (Η:=be) (e:=y) rfl rfl rfl rfl rfl aY (ec _) D D) ac ?_;rintro _ _⟨a3,A,rfl,rfl⟩;refine ML ?_;intros;refine⟨(i+1,a3,A,O++[y]),⟨by dsimp only;omega,by dsimp only;rw[aQ,J,a2,al,bu,U]⟩,by dsimp only;omega,?_,?_⟩
   .dsimp only;rw[bJ i];exact aG
   .dsimp only;refine(E.at (Φ:=gO y) (E.d7 (f:=gO) fj)).trans ?_;refine(E.at (Φ:=η gO [y]) (E.refl _)).trans ?_;refine(E.at (Φ:=η gO O) (E.refl _)).trans ?_;refine(E.c9 (f:=gO) fj).trans ?_;exact aj
